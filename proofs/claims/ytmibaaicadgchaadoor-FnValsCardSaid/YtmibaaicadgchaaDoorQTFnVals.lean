/- Plain laws over numbers, lists and texts, for the law FnVals: no program in sight. -/
import Derived.Test.YtmibaaicadgchaaDoorProg
import Derived.Below
import Derived.Deep.Draws
import Derived.Deep.AppendLies
import Derived.Maps.AppendAt
import Derived.OwnWalk
import Derived.Laws.BytesArg
import Derived.Laws.MakeOwn
import Derived.Laws.OwnMore
import Derived.Deep.OwnRows
import Derived.Tactics
import Derived.Lib.ConvBytes
import Derived.Laws.Slices
import Derived.WalkKit
import Derived.KernelRfl
import Derived.RowKit3
import Derived.Deep.LoopGhost
import Derived.Deep.QuietTactic
import Derived.BigQuiet
import Derived.WideLaws
import Derived.Deep.DeepCutAuto
import Derived.Deep.CutBlock
import Derived.Deep.RegionHeld3
import Derived.Laws.Rows
import Derived.Lib.AppendStr
import Derived.ArgAppend
import Derived.Laws.IdiomCopy
import Derived.OrdersHeld
import Derived.Laws.BitsLemmas
import Derived.RowKit
import Derived.Test.YtmibaaicadgchaaDoorQShelf
import Derived.Lib.LaidTab
import Derived.Lib.AppendIntMem
import Derived.Lib.AtoiErrMem
import Derived.BigCall
import Derived.WalkSmall
import Derived.Laws.CopyOwn
import Derived.Deep.RegionLaw
import Derived.Test.YtmibaaicadgchaaDoorWWords
import Derived.Test.YtmibaaicadgchaaDoorWLast
import Derived.Test.YtmibaaicadgchaaDoorWQPut
import Derived.Test.YtmibaaicadgchaaDoorWApart
import Derived.Test.YtmibaaicadgchaaDoorWArr
import Derived.Test.YtmibaaicadgchaaDoorWZeros
import Derived.Test.YtmibaaicadgchaaDoorWFoot
import Derived.Test.YtmibaaicadgchaaDoorWKept
import Derived.Test.YtmibaaicadgchaaDoorWShare
import Derived.Test.YtmibaaicadgchaaDoorWN
import Derived.Test.YtmibaaicadgchaaDoorWRepsOne
import Derived.Test.YtmibaaicadgchaaDoorWNEv
import Derived.Test.YtmibaaicadgchaaDoorWMore
import Derived.Test.YtmibaaicadgchaaDoorWTab
import Derived.Test.YtmibaaicadgchaaDoorQOpen
import Derived.Lib.AtoiAll
import Derived.Lib.ItoaNum
import Derived.Lib.Strings
import Derived.Test.YtmibaaicadgchaaDoorQx13
import Derived.Test.YtmibaaicadgchaaDoorQx19
import Derived.Test.YtmibaaicadgchaaDoorQx20
import Derived.Test.YtmibaaicadgchaaDoorQx21
import Derived.Test.YtmibaaicadgchaaDoorQx22
import Derived.Test.YtmibaaicadgchaaDoorQx23
import Derived.Test.YtmibaaicadgchaaDoorQx24
import Derived.Test.YtmibaaicadgchaaDoorQx25
import Derived.Test.YtmibaaicadgchaaDoorQx26
import Derived.Test.YtmibaaicadgchaaDoorQx27
import Derived.Test.YtmibaaicadgchaaDoorQx3
import Derived.Test.YtmibaaicadgchaaDoorQx32
import Derived.Test.YtmibaaicadgchaaDoorQx35
import Derived.Test.YtmibaaicadgchaaDoorQx38
import Derived.Test.YtmibaaicadgchaaDoorQx39
import Derived.Test.YtmibaaicadgchaaDoorQx4
import Derived.Test.YtmibaaicadgchaaDoorQx5
import Derived.Test.YtmibaaicadgchaaDoorQx6
namespace Go.Proofs.YtmibaaicadgchaaDoor.Q
open Go.RowKit Go.Proofs.YtmibaaicadgchaaDoorW.PrintWords Go.Proofs.YtmibaaicadgchaaDoorW.PrintLast Go.Proofs.YtmibaaicadgchaaDoorW.PrintMore
set_option linter.unusedVariables false
set_option linter.unusedSimpArgs false
section
variable {P : Program} {ops : Array Oper} {Q : Exit → Act → World → Prop} {md : Region.Mode} {S : World → Prop} {ds : List Nat}
end
section
variable {P : Program} {ops : Array Oper} {Q : Exit → Act → World → Prop}
end
end Go.Proofs.YtmibaaicadgchaaDoor.Q
namespace Go.Proofs.YtmibaaicadgchaaDoor.Q
open Go.RowKit Go.Proofs.YtmibaaicadgchaaDoorW.PrintWords Go.Proofs.YtmibaaicadgchaaDoorW.PrintLast Go.Proofs.YtmibaaicadgchaaDoorW.PrintMore
set_option linter.unusedVariables false
set_option linter.unusedSimpArgs false
section
variable {P : Program} {ops : Array Oper} {Q : Exit → Act → World → Prop} {md : Region.Mode} {S : World → Prop} {ds : List Nat}
end
section
variable {P : Program} {ops : Array Oper} {Q : Exit → Act → World → Prop}
end
end Go.Proofs.YtmibaaicadgchaaDoor.Q
namespace Go.Proofs.YtmibaaicadgchaaDoor.Q
open Go.RowKit Go.Proofs.YtmibaaicadgchaaDoorW.PrintWords Go.Proofs.YtmibaaicadgchaaDoorW.PrintLast Go.Proofs.YtmibaaicadgchaaDoorW.PrintMore
open Go.Proofs.YtmibaaicadgchaaDoor.Open
set_option linter.unusedSimpArgs false
set_option linter.unusedVariables false
def okR (lo hi : Int) : Bool := (lo == 1 && hi == 0) || (decide (-1000000 ≤ lo) && decide (hi ≤ 1000000) && decide (lo ≤ hi))
theorem okR_iff (lo hi : Int) : okR lo hi = true ↔ (lo = 1 ∧ hi = 0) ∨ (-1000000 ≤ lo ∧ hi ≤ 1000000 ∧ lo ≤ hi) := by
  simp [okR, and_assoc]
theorem inR (a b c : Int) : impl_inRange.f a b c = some (decide (b ≤ a) && decide (a ≤ c)) := by
  unfold impl_inRange.f
  by_cases h : b ≤ a <;> simp [h]
theorem btw (a b c : Int) : spec_l01Between.f a b c = some (decide (b ≤ a) && decide (a ≤ c)) := by
  unfold spec_l01Between.f
  by_cases h : b ≤ a <;> simp [h]
theorem i_val (a : Int) : impl_isVal.f a = some (decide (-1000000 ≤ a) && decide (a ≤ 1000000)) := by
  unfold impl_isVal.f
  rw [inR]; rfl
theorem s_val (a : Int) : spec_l05Val.f a = some (decide (-1000000 ≤ a) && decide (a ≤ 1000000)) := by
  unfold spec_l05Val.f
  rw [btw]; rfl
theorem i_ok (a b : Int) : impl_RangeOk.f a b = some (okR a b) := by
  unfold impl_RangeOk.f
  simp only [i_val, Option.bind_some]
  by_cases h : (a == 1 && b == 0) = true
  · rw [if_pos h]; simp [okR, h]
  · rw [if_neg h]
    have e : okR a b = (decide (-1000000 ≤ a) && decide (b ≤ 1000000) && decide (a ≤ b)) := by
      unfold okR
      rw [Bool.eq_false_iff.mpr h]; rfl
    rw [e]
    (repeat' split) <;> simp_all <;> omega
theorem s_is (a b : Int) : spec_l06Is.f a b = some (decide (a ≤ b)) := rfl
theorem s_ok (a b : Int) : spec_RangeOk.f a b = some (okR a b) := by
  rw [← i_ok]
  unfold spec_RangeOk.f impl_RangeOk.f
  simp only [s_is, s_val, i_val, Option.bind_some]
  by_cases h1 : a = 1
  · by_cases h2 : b = 0
    · simp [h1, h2]
    · simp only [h1, h2, if_true, if_false]
      (repeat' split) <;> simp_all <;> omega
  · simp only [h1, if_false]
    (repeat' split) <;> simp_all <;> omega
theorem s_has (a b x : Int) : spec_RangeHas.f a b x = some (okR a b && decide (a ≤ x) && decide (x ≤ b)) := by
  unfold spec_RangeHas.f
  rw [s_ok]; simp only [Option.bind_some]
  grind
theorem i_has (a b x : Int) : impl_RangeHas.f a b x = some (okR a b && decide (a ≤ x) && decide (x ≤ b)) := by
  unfold impl_RangeHas.f
  rw [i_ok]; simp only [Option.bind_some]
  grind
def leqR (a b c d : Int) : Bool := okR a b && okR c d && (decide (b < a) || (decide (c ≤ a) && decide (b ≤ d)))
theorem i_leq (a b c d : Int) : impl_RangeLeq.f a b c d = some (leqR a b c d) := by
  unfold impl_RangeLeq.f leqR
  simp only [i_ok, Option.bind_some]
  by_cases h1 : okR a b = true
  · rcases (okR_iff a b).1 h1 with ⟨rfl, rfl⟩ | ⟨p1, p2, p3⟩
    · simp [h1]; cases okR c d <;> rfl
    · by_cases h2 : okR c d = true
      · have q : ¬ (a == 1 && b == 0) = true := by simp; omega
        have q2 : decide (b < a) = false := decide_eq_false (by omega)
        simp only [h1, h2, if_true, if_neg q, q2]
        rcases (okR_iff c d).1 h2 with ⟨rfl, rfl⟩ | ⟨p4, p5, p6⟩
        · simp; omega
        · have : (!c == 1 || !d == 0) = true := by simp; omega
          rw [if_pos this]
          grind
      · simp [h1, h2]
  · simp [h1]
/-- A range between two ends, cut down. -/
def mkR (lo hi : Int) : Int × Int := if mx lo (-1000000) > mn hi 1000000 then (1, 0) else (mx lo (-1000000), mn hi 1000000)
theorem mkR_in {lo hi : Int} (h1 : -1000000 ≤ lo) (h2 : hi ≤ 1000000) (h3 : lo ≤ hi) : mkR lo hi = (lo, hi) := by
  unfold mkR mx mn
  (repeat' split) <;> first | omega | (simp; omega) | simp_all
end Go.Proofs.YtmibaaicadgchaaDoor.Q
namespace Go.Proofs.YtmibaaicadgchaaDoor.Q
open Go.RowKit Go.Proofs.YtmibaaicadgchaaDoorW.PrintWords Go.Proofs.YtmibaaicadgchaaDoorW.PrintLast Go.Proofs.YtmibaaicadgchaaDoorW.PrintMore
open Go.Proofs.YtmibaaicadgchaaDoor.Open
set_option linter.unusedSimpArgs false
set_option linter.unusedVariables false
theorem s_min (a b : Int) : spec_l06Min.f a b = some (if a < b then a else b) := by unfold spec_l06Min.f; split <;> rfl
theorem s_max (a b : Int) : spec_l06Max.f a b = some (if b < a then a else b) := by unfold spec_l06Max.f; split <;> simp_all
theorem s_make (lo hi : Int) : spec_l06Make.f lo hi = some (mkR lo hi) := by
  unfold spec_l06Make.f spec_l06None.f mkR mx mn
  simp only [s_min, s_max, Option.bind_some]
  (repeat' split) <;> first | rfl | omega | (simp; omega)
end Go.Proofs.YtmibaaicadgchaaDoor.Q
namespace Go.Proofs.YtmibaaicadgchaaDoor.Q
open Go.RowKit Go.Proofs.YtmibaaicadgchaaDoorW.PrintWords Go.Proofs.YtmibaaicadgchaaDoorW.PrintLast Go.Proofs.YtmibaaicadgchaaDoorW.PrintMore
open Go.Proofs.YtmibaaicadgchaaDoor.Open
set_option linter.unusedSimpArgs false
set_option linter.unusedVariables false
def joinR (a b c d : Int) : Int × Int := if (okR a b && okR c d) = true then (if (a == 1 && b == 0) = true then (c, d) else if (c == 1 && d == 0) = true then (a, b) else (mn a c, mx b d)) else (1, 0)
theorem i_join (k : Nat) (a b c d : Int) : impl_RangeJoin.f (k + 1) a b c d = some (joinR a b c d) := by
  unfold impl_RangeJoin.f impl_RangeJoin.j0 joinR impl_orOther.f
  simp only [i_ok, Option.bind_some]
  (repeat' split) <;> simp_all
theorem s_join (k : Nat) (a b c d : Int) : spec_RangeJoin.f (k + 1) a b c d = some (joinR a b c d) := by
  unfold spec_RangeJoin.f spec_RangeJoin.j0 joinR
  simp only [s_ok, s_is, s_min, s_max, s_make, Option.bind_some, spec_l06None.f]
  by_cases h1 : okR a b = true
  · by_cases h2 : okR c d = true
    · simp only [h1, h2, if_true, Bool.not_true, Bool.and_self]
      rcases (okR_iff a b).1 h1 with ⟨rfl, rfl⟩ | ⟨p1, p2, p3⟩
      · simp
      · have q1 : decide (a ≤ b) = true := by simpa using p3
        have q2 : (a == 1 && b == 0) = false := by simp; omega
        simp only [q1, q2, if_true, Bool.false_eq_true, if_false]
        rcases (okR_iff c d).1 h2 with ⟨rfl, rfl⟩ | ⟨p4, p5, p6⟩
        · simp
        · have q3 : decide (c ≤ d) = true := by simpa using p6
          have q4 : (c == 1 && d == 0) = false := by simp; omega
          simp only [q3, q4, if_true, Bool.false_eq_true, if_false]
          have e1 : (if a < c then a else c) = mn a c := by unfold mn; split <;> split <;> omega
          have e2 : (if d < b then b else d) = mx b d := by unfold mx; split <;> split <;> omega
          rw [e1, e2, mkR_in]
          · unfold mn; split <;> omega
          · unfold mx; split <;> omega
          · unfold mn mx; split <;> split <;> omega
    · simp [h1, h2]
  · simp [h1]
end Go.Proofs.YtmibaaicadgchaaDoor.Q
namespace Go.Proofs.YtmibaaicadgchaaDoor.Q
open Go.RowKit Go.Proofs.YtmibaaicadgchaaDoorW.PrintWords Go.Proofs.YtmibaaicadgchaaDoorW.PrintLast Go.Proofs.YtmibaaicadgchaaDoorW.PrintMore
open Go.Proofs.YtmibaaicadgchaaDoor.Open
set_option linter.unusedSimpArgs false
set_option linter.unusedVariables false
theorem i_vok (a b : Int) (c : Bool) : impl_ValOk.f a b c = some (okR a b) := by unfold impl_ValOk.f; rw [i_ok]; rfl
theorem s_vok (a b : Int) (c : Bool) : spec_ValOk.f a b c = some (okR a b) := by unfold spec_ValOk.f; rw [s_ok]; rfl
theorem i_vleq (a b : Int) (s : Bool) (c d : Int) (t : Bool) : impl_ValLeq.f a b s c d t = some (leqR a b c d && (s || !t)) := by
  unfold impl_ValLeq.f
  simp only [i_leq, Option.bind_some]
  (repeat' split) <;> simp_all
theorem i_vhas (a b : Int) (s : Bool) (w : Bool) (n : Int) : impl_ValHas.f a b s w n = some (okR a b && (if w then decide (a ≤ n) && decide (n ≤ b) else !s && n == 0)) := by
  unfold impl_ValHas.f
  simp only [i_vok, i_has, Option.bind_some]
  (repeat' split) <;> simp_all [and_assoc, Bool.and_assoc]
theorem s_vhas (a b : Int) (s : Bool) (w : Bool) (n : Int) : spec_ValHas.f a b s w n = some (okR a b && (if w then decide (a ≤ n) && decide (n ≤ b) else !s && n == 0)) := by
  unfold spec_ValHas.f
  simp only [s_vok, s_has, Option.bind_some]
  (repeat' split) <;> simp_all [and_assoc, Bool.and_assoc]
end Go.Proofs.YtmibaaicadgchaaDoor.Q
namespace Go.Proofs.YtmibaaicadgchaaDoor.Q
open Go.RowKit Go.Proofs.YtmibaaicadgchaaDoorW.PrintWords Go.Proofs.YtmibaaicadgchaaDoorW.PrintLast Go.Proofs.YtmibaaicadgchaaDoorW.PrintMore
open Go.Proofs.YtmibaaicadgchaaDoor.Open
set_option linter.unusedSimpArgs false
set_option linter.unusedVariables false
theorem drop_cons {α : Type} {l : List α} {i : Nat} {x : α} {t : List α} (h : l.drop i = x :: t) : i < l.length ∧ l[i]? = some x ∧ l.drop (i + 1) = t := by
  have h1 : i < l.length := by
    rcases Nat.lt_or_ge i l.length with h1 | h1
    · exact h1
    · rw [List.drop_eq_nil_of_le h1] at h; simp at h
  refine ⟨h1, ?_, ?_⟩
  · have := congrArg (fun z => z[0]?) h
    simpa using this
  · have := congrArg List.tail h
    simpa using this
theorem drop_nil {α : Type} {l : List α} {i : Nat} (h : l.drop i = []) : l.length ≤ i := by simpa using h
theorem rd_at {l : List Int} {i : Nat} {x : Int} (h : l[i]? = some x) : rd l (i : Int) = x := by
  unfold rd; simp [List.getD, h]
theorem w64 {n : Int} (h1 : -9223372036854775808 ≤ n) (h2 : n ≤ 9223372036854775807) : wrap64 n = n := by unfold wrap64; omega
theorem w64s (i : Nat) (h : i < 9223372036854775807) : wrap64 ((i : Int) + 1) = ((i + 1 : Nat) : Int) := by
  rw [w64 (by omega) (by omega)]; omega
end Go.Proofs.YtmibaaicadgchaaDoor.Q
namespace Go.Proofs.YtmibaaicadgchaaDoor.Q
open Go.RowKit Go.Proofs.YtmibaaicadgchaaDoorW.PrintWords Go.Proofs.YtmibaaicadgchaaDoorW.PrintLast Go.Proofs.YtmibaaicadgchaaDoorW.PrintMore
open Go.Proofs.YtmibaaicadgchaaDoor.Open
set_option linter.unusedSimpArgs false
set_option linter.unusedVariables false
/-- The steps from a place on are numbers of the language, each greater than the one ahead of it. -/
def stFrom : Bool → Int → List Int → Bool
  | _, _, [] => true
  | ahead, p, x :: t => (decide (-1000000 ≤ x) && decide (x ≤ 1000000)) && (!ahead || decide (p < x)) && stFrom true x t
def stOk (l : List Int) : Bool := decide (l.length ≤ 20) && stFrom false 0 l
theorem i_steps_l (l : List Int) (hn : l.length < 9223372036854775807) : ∀ t k i, l.drop i = t → t.length < k → impl_stepsOk.l0 k l l (l.length : Int) (i : Int) = some (decide (l.length ≤ 20) && stFrom (decide (0 < i)) (rd l ((i : Int) - 1)) t)
  | [], k + 1, i, h, hk => by
    have := drop_nil h
    unfold impl_stepsOk.l0 stFrom
    rw [if_neg (by omega), Bool.and_true]
    congr 1; rw [decide_eq_decide]; omega
  | x :: t, k + 1, i, h, hk => by
    obtain ⟨h1, h2, h3⟩ := drop_cons h
    have ih := i_steps_l l hn t k (i + 1) h3 (by simp at hk; omega)
    have e3 : rd l ((((i + 1 : Nat) : Int)) - 1) = x := by rw [show (((i + 1 : Nat) : Int)) - 1 = (i : Int) by omega]; exact rd_at h2
    rw [e3] at ih
    unfold impl_stepsOk.l0 stFrom
    rw [if_pos (by omega), if_pos (by omega), if_pos (by omega), rd_at h2, i_val, w64s i (by omega), ih]
    simp only [Option.bind_some]
    cases hv : (decide (-1000000 ≤ x) && decide (x ≤ 1000000))
    · simp
    · rw [if_pos rfl]
      by_cases hi : 0 < i
      · rw [if_pos (by omega), w64 (by omega) (by omega), if_pos (by omega), if_pos (by omega)]
        simp only [hi, decide_true, Bool.not_true, Bool.false_or, Bool.true_and]
        by_cases hp : rd l ((i : Int) - 1) < x
        · rw [if_neg (by omega)]; simp [hp]
        · rw [if_pos (by omega)]; simp [hp]
      · rw [if_neg (by omega)]; simp [hi]
theorem i_steps (k : Nat) (l : List Int) (hn : l.length ≤ 1048576) (hk : l.length < k) : impl_stepsOk.f k l = some (stOk l) := by
  unfold impl_stepsOk.f
  have := i_steps_l l (by omega) l k 0 rfl hk
  simp only [Nat.lt_irrefl, decide_false] at this
  have e : ∀ p q t, stFrom false p t = stFrom false q t := by intro p q t; cases t <;> simp [stFrom]
  rw [e _ 0] at this
  exact this
theorem s_steps_l (l : List Int) (hn : l.length < 9223372036854775807) : ∀ t k i, l.drop i = t → t.length < k → spec_l06Steps.l0 k l (i : Int) = some (stFrom (decide (0 < i)) (rd l ((i : Int) - 1)) t)
  | [], k + 1, i, h, hk => by
    have := drop_nil h
    unfold spec_l06Steps.l0 stFrom
    rw [if_neg (by omega)]
  | x :: t, k + 1, i, h, hk => by
    obtain ⟨h1, h2, h3⟩ := drop_cons h
    have ih := s_steps_l l hn t k (i + 1) h3 (by simp at hk; omega)
    have e3 : rd l ((((i + 1 : Nat) : Int)) - 1) = x := by rw [show (((i + 1 : Nat) : Int)) - 1 = (i : Int) by omega]; exact rd_at h2
    rw [e3] at ih
    unfold spec_l06Steps.l0 stFrom
    rw [if_pos (by omega), if_pos (by omega), rd_at h2, s_val, w64s i (by omega), ih]
    simp only [Option.bind_some]
    cases hv : (decide (-1000000 ≤ x) && decide (x ≤ 1000000))
    · simp
    · rw [if_pos rfl]
      by_cases hi : 0 < i
      · rw [if_pos (by omega), w64 (by omega) (by omega), if_pos (by omega), if_pos (by omega)]
        simp only [hi, decide_true, Bool.not_true, Bool.false_or, Bool.true_and]
        by_cases hp : rd l ((i : Int) - 1) < x
        · rw [if_neg (by omega)]; simp [hp]
        · rw [if_pos (by omega)]; simp [hp]
      · rw [if_neg (by omega)]; simp [hi]
theorem s_steps (k : Nat) (l : List Int) (hn : l.length ≤ 1048576) (hk : l.length < k) : spec_l06Steps.f k l = some (stOk l) := by
  unfold spec_l06Steps.f stOk
  have e : ∀ p q t, stFrom false p t = stFrom false q t := by intro p q t; cases t <;> simp [stFrom]
  by_cases h : l.length ≤ 20
  · rw [if_neg (by omega)]
    have := s_steps_l l (by omega) l k 0 rfl hk
    simp only [Nat.lt_irrefl, decide_false] at this
    rw [e _ 0] at this
    simp only [h, decide_true, Bool.true_and]
    exact this
  · rw [if_pos (by omega)]; simp [h]
/-- The lower end that comes of the steps. -/
def loOf (c : Int) : Int → List Int → Int
  | lo, [] => lo
  | lo, x :: t => loOf c (if x ≤ c then x else lo) t
def hiOf (d : Int) : List Int → Int → Int
  | [], hi => hi
  | x :: t, hi => if x ≥ d then x else hiOf d t hi
def widR (a b c d : Int) (l : List Int) : Int × Int :=
  if (okR a b && okR c d && stOk l) = true then
    (if (a == 1 && b == 0) = true then (c, d) else if (c == 1 && d == 0) = true then (a, b)
     else (if c < a then loOf c (-1000000) l else a, if b < d then hiOf d l 1000000 else b))
  else (1, 0)
theorem st_in : ∀ {w p l}, stFrom w p l = true → ∀ x ∈ l, -1000000 ≤ x ∧ x ≤ 1000000
  | _, _, [], _, x, hx => by simp at hx
  | w, p, y :: t, h, x, hx => by
    simp only [stFrom, Bool.and_eq_true, decide_eq_true_eq] at h
    rcases List.mem_cons.1 hx with rfl | hx
    · exact h.1.1
    · exact st_in h.2 x hx
theorem st_gt : ∀ {p l}, stFrom true p l = true → ∀ x ∈ l, p < x
  | _, [], _, x, hx => by simp at hx
  | p, y :: t, h, x, hx => by
    simp only [stFrom, Bool.and_eq_true, decide_eq_true_eq, Bool.not_true, Bool.false_or] at h
    rcases List.mem_cons.1 hx with rfl | hx
    · exact h.1.2
    · have := st_gt h.2 x hx; omega
/-- The reference's first loop. -/
theorem s_lo (l : List Int) (hn : l.length < 9223372036854775807) (a b c d : Int) : ∀ t k i lo, l.drop i = t → spec_RangeWiden.l0 (k + (t.length + 1)) l lo (i : Int) a b c d = spec_RangeWiden.j2 k l (loOf c lo t) a b c d
  | [], k, i, lo, h => by
    have := drop_nil h
    show spec_RangeWiden.l0 (k + 1) l lo (i : Int) a b c d = _
    conv => lhs; unfold spec_RangeWiden.l0
    rw [if_neg (by omega)]; rfl
  | x :: t, k, i, lo, h => by
    obtain ⟨h1, h2, h3⟩ := drop_cons h
    show spec_RangeWiden.l0 (k + (t.length + 1) + 1) l lo (i : Int) a b c d = _
    conv => lhs; unfold spec_RangeWiden.l0
    rw [if_pos (by omega), if_pos (by omega), rd_at h2, w64s i (by omega), s_lo l hn a b c d t k (i + 1) _ h3, s_lo l hn a b c d t k (i + 1) _ h3]
    conv => rhs; unfold loOf
    by_cases hx : x ≤ c <;> simp [hx]
theorem hiOf_app (d : Int) : ∀ (t : List Int) (x hi : Int), hiOf d (t ++ [x]) hi = hiOf d t (if x ≥ d then x else hi)
  | [], x, hi => by simp [hiOf]
  | y :: t, x, hi => by simp [hiOf, hiOf_app d t]
/-- The reference's second loop, which goes back from the end. -/
theorem s_hi (l : List Int) (hn : l.length < 9223372036854775807) (lo c d : Int) : ∀ i k hi, i ≤ l.length → spec_RangeWiden.l1 (k + (i + 1)) l lo hi ((i : Int) - 1) c d = some (mkR lo (hiOf d (l.take i) hi))
  | 0, k, hi, h => by
    show spec_RangeWiden.l1 (k + 1) l lo hi _ c d = _
    unfold spec_RangeWiden.l1
    rw [if_neg (by omega), s_make]; simp [hiOf]
  | i + 1, k, hi, h => by
    show spec_RangeWiden.l1 (k + (i + 1) + 1) l lo hi _ c d = _
    have e0 : (((i + 1 : Nat) : Int) - 1) = (i : Int) := by omega
    have e1 : l[i]? = some (rd l (i : Int)) := by unfold rd; simp [show i < l.length by omega]
    rw [e0]
    conv => lhs; unfold spec_RangeWiden.l1
    rw [if_pos (by omega), if_pos (by omega), if_pos (by omega), w64 (by omega) (by omega), s_hi l hn lo c d i k _ (by omega), s_hi l hn lo c d i k _ (by omega), List.take_add_one, e1]
    simp only [Option.toList_some, hiOf_app]
    by_cases hx : rd l (i : Int) ≥ d <;> simp [hx]
theorem loOf_in (c : Int) (hc : -1000000 ≤ c) : ∀ (t : List Int) (lo : Int), -1000000 ≤ lo → lo ≤ c → (∀ x ∈ t, -1000000 ≤ x) → -1000000 ≤ loOf c lo t ∧ loOf c lo t ≤ c
  | [], lo, h1, h2, _ => ⟨h1, h2⟩
  | x :: t, lo, h1, h2, h3 => by
    unfold loOf
    have hx := h3 x (by simp)
    split
    · exact loOf_in c hc t x hx (by assumption) (fun y hy => h3 y (by simp [hy]))
    · exact loOf_in c hc t lo h1 h2 (fun y hy => h3 y (by simp [hy]))
theorem hiOf_in (d : Int) : ∀ (t : List Int) (hi : Int), hi ≤ 1000000 → d ≤ hi → (∀ x ∈ t, x ≤ 1000000) → hiOf d t hi ≤ 1000000 ∧ d ≤ hiOf d t hi
  | [], hi, h1, h2, _ => ⟨h1, h2⟩
  | x :: t, hi, h1, h2, h3 => by
    unfold hiOf
    have hx := h3 x (by simp)
    split
    · exact ⟨hx, by omega⟩
    · exact hiOf_in d t hi h1 h2 (fun y hy => h3 y (by simp [hy]))
/-- What the program's one loop makes of the two ends. -/
def fLo (a c : Int) : Int → List Int → Int
  | lo, [] => lo
  | lo, x :: t => fLo a c (if a > c ∧ x ≤ c then mx lo x else lo) t
def fHi (b d : Int) : Int → List Int → Int
  | hi, [] => hi
  | hi, x :: t => fHi b d (if b < d ∧ x ≥ d then mn hi x else hi) t
theorem i_wid_l (l : List Int) (hn : l.length < 9223372036854775807) (a b c d : Int) : ∀ t k i lo hi, l.drop i = t → 2 * t.length < k → impl_RangeWiden.l0 k l (l.length : Int) (i : Int) a b c d lo hi = some (fLo a c lo t, fHi b d hi t)
  | [], k + 1, i, lo, hi, h, hk => by
    have := drop_nil h
    unfold impl_RangeWiden.l0
    rw [if_neg (by omega)]; rfl
  | x :: t, k + 2, i, lo, hi, h, hk => by
    obtain ⟨h1, h2, h3⟩ := drop_cons h
    have ih := fun lo hi => i_wid_l l hn a b c d t k (i + 1) lo hi h3 (by simp at hk; omega)
    unfold impl_RangeWiden.l0
    rw [if_pos (by omega), if_pos (by omega), if_pos (by omega), rd_at h2]
    unfold impl_RangeWiden.j4
    simp only [w64s i (by omega), ih, fLo, fHi]
    by_cases p1 : a > c <;> by_cases p2 : x ≤ c <;> by_cases p3 : b < d <;> by_cases p4 : x ≥ d <;> simp [p1, p2, p3, p4]
theorem fLo_stay (a c : Int) (h : ¬ c < a) : ∀ t lo, fLo a c lo t = lo
  | [], lo => rfl
  | x :: t, lo => by unfold fLo; rw [if_neg (by omega)]; exact fLo_stay a c h t lo
theorem fHi_stay (b d : Int) (h : ¬ b < d) : ∀ t hi, fHi b d hi t = hi
  | [], hi => rfl
  | x :: t, hi => by unfold fHi; rw [if_neg (by omega)]; exact fHi_stay b d h t hi
theorem fLo_lo (a c : Int) (h : c < a) : ∀ t w p lo, stFrom w p t = true → (∀ x ∈ t, lo ≤ x) → fLo a c lo t = loOf c lo t
  | [], _, _, lo, _, _ => rfl
  | x :: t, w, p, lo, h1, h2 => by
    have hx := h2 x (by simp)
    simp only [stFrom, Bool.and_eq_true, decide_eq_true_eq] at h1
    have hg := st_gt h1.2
    unfold fLo loOf
    by_cases hc : x ≤ c
    · rw [if_pos ⟨h, hc⟩, if_pos hc, show mx lo x = x by unfold mx; split <;> omega]
      exact fLo_lo a c h t true x x h1.2 (fun y hy => by have := hg y hy; omega)
    · rw [if_neg (by omega), if_neg hc]
      exact fLo_lo a c h t true x lo h1.2 (fun y hy => h2 y (by simp [hy]))
theorem fHi_low (b d : Int) : ∀ t hi, (∀ x ∈ t, hi ≤ x) → fHi b d hi t = hi
  | [], hi, _ => rfl
  | x :: t, hi, h => by
    have hx := h x (by simp)
    unfold fHi
    rw [show (if b < d ∧ x ≥ d then mn hi x else hi) = hi by
      split
      · unfold mn; split <;> omega
      · rfl]
    exact fHi_low b d t hi (fun y hy => h y (by simp [hy]))
theorem fHi_hi (b d : Int) (h : b < d) : ∀ t w p hi, stFrom w p t = true → (∀ x ∈ t, x ≤ hi) → fHi b d hi t = hiOf d t hi
  | [], _, _, hi, _, _ => rfl
  | x :: t, w, p, hi, h1, h2 => by
    have hx := h2 x (by simp)
    simp only [stFrom, Bool.and_eq_true, decide_eq_true_eq] at h1
    have hg := st_gt h1.2
    unfold fHi hiOf
    by_cases hc : x ≥ d
    · rw [if_pos ⟨h, hc⟩, if_pos hc, show mn hi x = x by unfold mn; split <;> omega]
      exact fHi_low b d t x (fun y hy => by have := hg y hy; omega)
    · rw [if_neg (by omega), if_neg hc]
      exact fHi_hi b d h t true x hi h1.2 (fun y hy => h2 y (by simp [hy]))
theorem s_j2 (k : Nat) (l : List Int) (lo a b c d : Int) : spec_RangeWiden.j2 (k + 1) l lo a b c d = if d > b then (spec_RangeWiden.l1 k l lo 1000000 (wrap64 ((l.length : Int) - 1)) c d) else ((spec_l06Make.f lo b).bind fun bt => (some (bt.1, bt.2))) := rfl
theorem s_wid (k : Nat) (a b c d : Int) (l : List Int) (hn : l.length ≤ 1048576) (hk : 2 * l.length + 8 ≤ k) : spec_RangeWiden.f k a b c d l = some (widR a b c d l) := by
  unfold spec_RangeWiden.f widR
  simp only [s_ok, s_steps k l hn (by omega), Option.bind_some]
  obtain ⟨k, rfl⟩ : ∃ m, k = m + (l.length + 1) + 1 + (l.length + 1) + 1 := ⟨k - (l.length + 1) - 1 - (l.length + 1) - 1, by omega⟩
  unfold spec_RangeWiden.j0
  simp only [spec_l06None.f, s_is, Option.bind_some]
  by_cases h1 : okR a b = true
  · by_cases h2 : okR c d = true
    · by_cases h3 : stOk l = true
      · simp only [h1, h2, h3, if_true, Bool.not_true, Bool.and_self, Bool.false_eq_true, if_false]
        rcases (okR_iff a b).1 h1 with ⟨rfl, rfl⟩ | ⟨p1, p2, p3⟩
        · simp
        · have q1 : decide (a ≤ b) = true := by simpa using p3
          have q2 : (a == 1 && b == 0) = false := by simp; omega
          simp only [q1, q2, if_true, Bool.false_eq_true, if_false]
          rcases (okR_iff c d).1 h2 with ⟨rfl, rfl⟩ | ⟨p4, p5, p6⟩
          · simp
          · have q3 : decide (c ≤ d) = true := by simpa using p6
            have q4 : (c == 1 && d == 0) = false := by simp; omega
            simp only [q3, q4, if_true, Bool.false_eq_true, if_false]
            simp only [stOk, Bool.and_eq_true] at h3
            have hin := st_in h3.2
            have g1 := loOf_in c p4 l (-1000000) (by omega) p4 (fun x hx => (hin x hx).1)
            have g2 := hiOf_in d l 1000000 (by omega) p5 (fun x hx => (hin x hx).2)
            have e0 : wrap64 ((l.length : Int) - 1) = (l.length : Int) - 1 := w64 (by omega) (by omega)
            have fin : ∀ lo, -1000000 ≤ lo → lo ≤ a → spec_RangeWiden.j2 (k + (l.length + 1) + 1) l lo a b c d = some (lo, if b < d then hiOf d l 1000000 else b) := by
              intro lo u1 u2
              rw [s_j2]
              split
              · rw [e0, s_hi l (by omega) lo c d l.length k 1000000 (Nat.le_refl _), List.take_length, mkR_in u1 g2.1 (by omega)]
              · rw [s_make, mkR_in u1 (by omega) (by omega)]; rfl
            have fin2 : ∀ lo, -1000000 ≤ lo → lo ≤ a → spec_RangeWiden.j2 (k + (l.length + 1) + 1 + (l.length + 1)) l lo a b c d = some (lo, if b < d then hiOf d l 1000000 else b) := by
              intro lo u1 u2
              rw [show k + (l.length + 1) + 1 + (l.length + 1) = (k + (l.length + 1)) + (l.length + 1) + 1 by omega]
              rw [s_j2]
              split
              · rw [e0, s_hi l (by omega) lo c d l.length (k + (l.length + 1)) 1000000 (Nat.le_refl _), List.take_length, mkR_in u1 g2.1 (by omega)]
              · rw [s_make, mkR_in u1 (by omega) (by omega)]; rfl
            split
            · rw [show (0 : Int) = ((0 : Nat) : Int) from rfl, s_lo l (by omega) a b c d l _ 0 _ rfl, fin _ g1.1 (by omega)]
            · rw [fin2 a p1 (Int.le_refl _)]
      · simp [h1, h2, h3]
    · simp [h1, h2]
  · simp [h1]
theorem i_wid (k : Nat) (a b c d : Int) (l : List Int) (hn : l.length ≤ 1048576) (hk : 2 * l.length + 8 ≤ k) : impl_RangeWiden.f k a b c d l = some (widR a b c d l) := by
  unfold impl_RangeWiden.f widR
  simp only [i_ok, i_steps k l hn (by omega), Option.bind_some]
  obtain ⟨k, rfl⟩ : ∃ m, k = m + 1 + 1 + 1 := ⟨k - 3, by omega⟩
  unfold impl_RangeWiden.j0 impl_orOther.f
  by_cases h1 : okR a b = true
  · by_cases h2 : okR c d = true
    · by_cases h3 : stOk l = true
      · simp only [h1, h2, h3, if_true, Bool.not_true, Bool.and_self, Bool.false_eq_true, if_false]
        by_cases q2 : (a == 1 && b == 0) = true
        · simp [q2]
        · by_cases q4 : (c == 1 && d == 0) = true
          · simp [q2, q4]
          · rw [Bool.not_eq_true] at q2 q4
            simp only [q2, q4, Bool.false_eq_true, if_false, Option.bind_some]
            have h3' := h3
            simp only [stOk, Bool.and_eq_true] at h3'
            have hin := st_in h3'.2
            have lp : ∀ lo hi, impl_RangeWiden.l0 k l (l.length : Int) 0 a b c d lo hi = some (fLo a c lo l, fHi b d hi l) := fun lo hi => i_wid_l l (by omega) a b c d l k 0 lo hi rfl (by omega)
            unfold impl_RangeWiden.j1
            unfold impl_RangeWiden.j2
            simp only [lp]
            by_cases u1 : c < a <;> by_cases u2 : b < d
            · rw [if_pos u1, if_pos u2, if_pos u1, if_pos u2, fLo_lo a c u1 l _ _ _ h3'.2 (fun x hx => (hin x hx).1), fHi_hi b d u2 l _ _ _ h3'.2 (fun x hx => (hin x hx).2)]
            · rw [if_pos u1, if_neg u2, if_pos u1, if_neg u2, fLo_lo a c u1 l _ _ _ h3'.2 (fun x hx => (hin x hx).1), fHi_stay b d u2]
            · rw [if_neg u1, if_pos u2, if_neg u1, if_pos u2, fHi_hi b d u2 l _ _ _ h3'.2 (fun x hx => (hin x hx).2), fLo_stay a c u1]
            · rw [if_neg u1, if_neg u2, if_neg u1, if_neg u2, fLo_stay a c u1, fHi_stay b d u2]
      · simp [h1, h2, h3]
    · simp [h1, h2]
  · simp [h1]
end Go.Proofs.YtmibaaicadgchaaDoor.Q
namespace Go.Proofs.YtmibaaicadgchaaDoor.Q
open Go.RowKit Go.Proofs.YtmibaaicadgchaaDoorW.PrintWords Go.Proofs.YtmibaaicadgchaaDoorW.PrintLast Go.Proofs.YtmibaaicadgchaaDoorW.PrintMore
open Go.Proofs.YtmibaaicadgchaaDoor.Open
set_option linter.unusedSimpArgs false
set_option linter.unusedVariables false
def isDig (c : UInt8) : Prop := 48 ≤ c.toNat ∧ c.toNat ≤ 57
def dval (acc : Nat) (l : List UInt8) : Nat := l.foldl (fun a c => a * 10 + (c.toNat - 48)) acc
theorem dval_nil (acc : Nat) : dval acc [] = acc := by unfold dval; rw [List.foldl_nil]
theorem dval_cons (acc : Nat) (c : UInt8) (r : List UInt8) : dval acc (c :: r) = dval (acc * 10 + (c.toNat - 48)) r := by
  unfold dval
  rw [List.foldl_cons]
theorem dval_snoc (c : UInt8) (l : List UInt8) (acc : Nat) : dval acc (l ++ [c]) = dval acc l * 10 + (c.toNat - 48) := by
  unfold dval
  rw [List.foldl_append, List.foldl_cons, List.foldl_nil]
theorem dval_ge : ∀ (l : List UInt8) (acc : Nat), acc ≤ dval acc l
  | [], acc => Nat.le_refl _
  | c :: l, acc => by simp only [dval_cons, dval_nil]; have := dval_ge l (acc * 10 + (c.toNat - 48)); omega
theorem ofNat_dig (d : Nat) (h : d < 10) : (UInt8.ofNat (48 + d)).toNat = 48 + d := by simp; omega
theorem isDig_ofNat (d : Nat) (h : d < 10) : isDig (UInt8.ofNat (48 + d)) := by unfold isDig; rw [ofNat_dig d h]; omega
theorem dec_digs (u : Nat) : ∀ c ∈ Lib.decDigits u, isDig c := by
  induction u using Nat.strongRecOn with
  | _ u ih =>
    rw [Lib.decDigits]
    split
    · rename_i h; intro c hc; simp only [List.mem_singleton] at hc; subst hc; exact isDig_ofNat u h
    · intro c hc
      rcases List.mem_append.1 hc with h | h
      · exact ih (u / 10) (by omega) c h
      · simp only [List.mem_singleton] at h; subst h; exact isDig_ofNat _ (by omega)
theorem dval_dec (u : Nat) : dval 0 (Lib.decDigits u) = u := by
  induction u using Nat.strongRecOn with
  | _ u ih =>
    rw [Lib.decDigits]
    split
    · rename_i h; simp only [dval_cons, dval_nil, ofNat_dig u h]; omega
    · rw [dval_snoc, ih (u / 10) (by omega), ofNat_dig _ (by omega)]; omega
theorem dec_inj {u v : Nat} (h : Lib.decDigits u = Lib.decDigits v) : u = v := by rw [← dval_dec u, h, dval_dec]
theorem dec_ne (u : Nat) : Lib.decDigits u ≠ [] := by rw [Lib.decDigits]; split <;> simp
theorem dec_len10 (k : Nat) : ∀ u, u < 10 ^ (k + 1) → (Lib.decDigits u).length ≤ k + 1 := by
  induction k with
  | zero => intro u hu; rw [Lib.decDigits, dif_pos (by simpa using hu)]; simp
  | succ k ih =>
    intro u hu
    rw [Lib.decDigits]
    split
    · simp
    · have := ih (u / 10) (by rw [Nat.pow_succ] at hu; omega)
      simp; omega
theorem parse_digs : ∀ (l : List UInt8) (acc : Nat), (∀ c ∈ l, isDig c) → dval acc l < 1000000000 → Lib.parseUint10 acc l = .ok (dval acc l)
  | [], acc, _, _ => rfl
  | c :: l, acc, hd, hv => by
    have hc := hd c (by simp)
    unfold isDig at hc
    rw [dval_cons] at hv ⊢
    have hge := dval_ge l (acc * 10 + (c.toNat - 48))
    rw [Lib.parseUint10, if_pos hc, if_neg (by omega), if_neg (by omega)]
    exact parse_digs l _ (fun x hx => hd x (by simp [hx])) hv
theorem atoi_dec (u : Nat) (hu : u < 1000000000) : Lib.atoiAll (Lib.decDigits u) = .ok (u : Int) := by
  have hp := parse_digs (Lib.decDigits u) 0 (dec_digs u) (by rw [dval_dec]; omega)
  rw [dval_dec] at hp
  have hd := dec_digs u
  have hne := dec_ne u
  cases e : Lib.decDigits u with
  | nil => exact absurd e hne
  | cons c r =>
    rw [e] at hp hd
    have hc := hd c (by simp)
    unfold isDig at hc
    unfold Lib.atoiAll
    simp only
    rw [if_neg (by omega)]
    unfold Lib.parseMag
    rw [if_neg (by simp), hp]
    simp only
    rw [if_neg (by omega), if_neg (by omega), if_neg (by omega)]
theorem atoi_neg_dec (u : Nat) (h1 : 1 ≤ u) (hu : u < 1000000000) : Lib.atoiAll (45 :: Lib.decDigits u) = .ok (-(u : Int)) := by
  have hp := parse_digs (Lib.decDigits u) 0 (dec_digs u) (by rw [dval_dec]; omega)
  rw [dval_dec] at hp
  unfold Lib.atoiAll
  simp only
  rw [if_pos (by decide)]
  unfold Lib.parseMag
  rw [if_neg (dec_ne u), hp]
  simp only
  rw [if_neg (by simp), if_neg (by omega), if_pos (by decide)]
theorem itoa_pos (u : Nat) : Lib.itoa (u : Int) = Lib.decDigits u := by unfold Lib.itoa; rw [if_neg (by omega)]; simp
theorem itoa_neg' (u : Nat) (h : 1 ≤ u) : Lib.itoa (-(u : Int)) = 45 :: Lib.decDigits u := by unfold Lib.itoa; rw [if_pos (by omega)]; simp
theorem int_cases (n : Int) : (∃ u : Nat, n = (u : Int)) ∨ ∃ u : Nat, 1 ≤ u ∧ n = -(u : Int) := by
  by_cases h : 0 ≤ n
  · exact .inl ⟨n.toNat, by omega⟩
  · exact .inr ⟨n.natAbs, by omega, by omega⟩
theorem atoi_itoa (n : Int) (h1 : -1000000 ≤ n) (h2 : n ≤ 1000000) : Lib.atoiAll (Lib.itoa n) = .ok n := by
  rcases int_cases n with ⟨u, rfl⟩ | ⟨u, hu, rfl⟩
  · rw [itoa_pos]; exact atoi_dec u (by omega)
  · rw [itoa_neg' u hu]; exact atoi_neg_dec u hu (by omega)
theorem itoa_inj {m n : Int} (h : Lib.itoa m = Lib.itoa n) : m = n := by
  have no : ∀ u v : Nat, Lib.decDigits u ≠ 45 :: Lib.decDigits v := fun u v e => by
    have := dec_digs u 45 (by rw [e]; simp)
    unfold isDig at this
    simp at this
  rcases int_cases m with ⟨u, rfl⟩ | ⟨u, hu, rfl⟩ <;> rcases int_cases n with ⟨v, rfl⟩ | ⟨v, hv, rfl⟩
  · rw [itoa_pos, itoa_pos] at h; rw [dec_inj h]
  · rw [itoa_pos, itoa_neg' v hv] at h; exact absurd h (no u v)
  · rw [itoa_pos, itoa_neg' u hu] at h; exact absurd h.symm (no v u)
  · rw [itoa_neg' v hv, itoa_neg' u hu] at h; rw [dec_inj (List.cons.inj h).2]
end Go.Proofs.YtmibaaicadgchaaDoor.Q
namespace Go.Proofs.YtmibaaicadgchaaDoor.Q
open Go.RowKit Go.Proofs.YtmibaaicadgchaaDoorW.PrintWords Go.Proofs.YtmibaaicadgchaaDoorW.PrintLast Go.Proofs.YtmibaaicadgchaaDoorW.PrintMore
open Go.Proofs.YtmibaaicadgchaaDoor.Open
set_option linter.unusedSimpArgs false
set_option linter.unusedVariables false
theorem toL (s : ByteArray) : s.toList = s.data.toList := Lib.toList_data s
theorem sizeL (s : ByteArray) : s.size = s.data.toList.length := Lib.size_eq s
theorem extL (s : ByteArray) (a b : Nat) : (s.extract a b).data.toList = (s.data.toList.drop a).take (b - a) := Lib.extract_data s a b
theorem ext_all (s : ByteArray) (a : Nat) : (s.extract a s.size).data.toList = s.data.toList.drop a := by
  rw [extL, sizeL, List.take_of_length_le (by simp)]
theorem ext_head (s : ByteArray) (b : Nat) : (s.extract 0 b).data.toList = s.data.toList.take b := by rw [extL]; simp
theorem mkL (l : List UInt8) : (⟨l.toArray⟩ : ByteArray).data.toList = l := rfl
theorem app_mk' (a b : ByteArray) : (a ++ b).data.toList = a.data.toList ++ b.data.toList := by simp [ByteArray.data_append]
end Go.Proofs.YtmibaaicadgchaaDoor.Q
namespace Go.Proofs.YtmibaaicadgchaaDoor.Q
open Go.RowKit Go.Proofs.YtmibaaicadgchaaDoorW.PrintWords Go.Proofs.YtmibaaicadgchaaDoorW.PrintLast Go.Proofs.YtmibaaicadgchaaDoorW.PrintMore
open Go.Proofs.YtmibaaicadgchaaDoor.Open
set_option linter.unusedSimpArgs false
set_option linter.unusedVariables false
theorem itoa_len8 (n : Int) (h1 : -2000000 ≤ n) (h2 : n ≤ 2000000) : (Lib.itoa n).length ≤ 8 := by
  rcases int_cases n with ⟨u, rfl⟩ | ⟨u, hu, rfl⟩
  · rw [itoa_pos]; have := dec_len10 6 u (by omega); omega
  · rw [itoa_neg' u hu]; have := dec_len10 6 u (by omega); simp; omega
theorem itoa_chars (n : Int) : ∀ c ∈ Lib.itoa n, c = 45 ∨ isDig c := by
  rcases int_cases n with ⟨u, rfl⟩ | ⟨u, hu, rfl⟩
  · rw [itoa_pos]; exact fun c hc => .inr (dec_digs u c hc)
  · rw [itoa_neg' u hu]
    intro c hc
    rcases List.mem_cons.1 hc with h | h
    · exact .inl h
    · exact .inr (dec_digs u c h)
theorem itoa_dot (n : Int) : (46 : UInt8) ∉ Lib.itoa n := by
  intro h
  rcases itoa_chars n 46 h with h | h
  · cases h
  · unfold isDig at h; simp at h
/-- What the text of a number is read as (impl_readNum.f). -/
theorem numOf_itoa (n : Int) (h1 : -1000000 ≤ n) (h2 : n ≤ 1000000) : numOf (Lib.itoa n) = (n, true) := by
  unfold numOf; rw [atoi_itoa n h1 h2]; simp
end Go.Proofs.YtmibaaicadgchaaDoor.Q
namespace Go.Proofs.YtmibaaicadgchaaDoor.Q
open Go.RowKit Go.Proofs.YtmibaaicadgchaaDoorW.PrintWords Go.Proofs.YtmibaaicadgchaaDoorW.PrintLast Go.Proofs.YtmibaaicadgchaaDoorW.PrintMore
open Go.Proofs.YtmibaaicadgchaaDoor.Open
set_option linter.unusedSimpArgs false
set_option linter.unusedVariables false
theorem size_mk (a : List UInt8) : (⟨a.toArray⟩ : ByteArray).size = a.length := by simp [ByteArray.size]
theorem dec_len (u : Nat) : (Lib.decDigits u).length ≤ u + 1 := by
  induction u using Nat.strongRecOn with
  | _ u ih =>
    rw [Lib.decDigits]
    split
    · simp
    · have := ih (u / 10) (by omega)
      simp; omega
theorem itoa_i (n : Int) (h1 : -2000000 ≤ n) (h2 : n ≤ 2000000) : strconv_Itoa.f n = some ⟨(Lib.itoa n).toArray⟩ := by
  unfold strconv_Itoa.f; rw [if_pos ⟨by omega, by omega⟩]
theorem itoa_len (n : Int) (h1 : -1000000 ≤ n) (h2 : n ≤ 1000000) : (Lib.itoa n).length ≤ 1000003 := by
  unfold Lib.itoa
  split
  · have := dec_len n.natAbs; simp; omega
  · have := dec_len n.toNat; omega
end Go.Proofs.YtmibaaicadgchaaDoor.Q
namespace Go.Proofs.YtmibaaicadgchaaDoor.Q
open Go.RowKit Go.Proofs.YtmibaaicadgchaaDoorW.PrintWords Go.Proofs.YtmibaaicadgchaaDoorW.PrintLast Go.Proofs.YtmibaaicadgchaaDoorW.PrintMore
open Go.Proofs.YtmibaaicadgchaaDoor.Open
set_option linter.unusedSimpArgs false
set_option linter.unusedVariables false
def rtext (a b : Int) : ByteArray := if okR a b = true then (if (a == 1 && b == 0) = true then ⟨#[110, 111, 110, 101]⟩ else (⟨(Lib.itoa a).toArray⟩ ++ (⟨#[46, 46]⟩ : ByteArray)) ++ ⟨(Lib.itoa b).toArray⟩) else ⟨#[]⟩
theorem i_rtext (a b : Int) : impl_RangeText.f a b = some (rtext a b) := by
  unfold impl_RangeText.f rtext
  simp only [i_ok, Option.bind_some]
  by_cases h : okR a b = true
  · rw [if_pos h, if_pos h]
    by_cases h2 : (a == 1 && b == 0) = true
    · rw [if_pos h2, if_pos h2]
    · rw [if_neg h2, if_neg h2]
      rcases (okR_iff a b).1 h with ⟨rfl, rfl⟩ | ⟨p1, p2, p3⟩
      · simp at h2
      · have l1 := itoa_len a (by omega) (by omega)
        have l2 := itoa_len b (by omega) (by omega)
        rw [itoa_i a (by omega) (by omega), itoa_i b (by omega) (by omega)]
        simp only [Option.bind_some]
        rw [if_pos (by rw [size_mk]; omega), if_pos (by rw [size_mk, size_mk]; omega)]
  · rw [if_neg h, if_neg h]
end Go.Proofs.YtmibaaicadgchaaDoor.Q
namespace Go.Proofs.YtmibaaicadgchaaDoor.Q
open Go.RowKit Go.Proofs.YtmibaaicadgchaaDoorW.PrintWords Go.Proofs.YtmibaaicadgchaaDoorW.PrintLast Go.Proofs.YtmibaaicadgchaaDoorW.PrintMore
open Go.Proofs.YtmibaaicadgchaaDoor.Open
set_option linter.unusedSimpArgs false
set_option linter.unusedVariables false
theorem dot_cut : ∀ {x x' y y' : List UInt8}, (46 : UInt8) ∉ x → (46 : UInt8) ∉ x' → x ++ 46 :: y = x' ++ 46 :: y' → x = x' ∧ y = y'
  | [], [], y, y', _, _, h => ⟨rfl, (List.cons.inj h).2⟩
  | [], c :: x', y, y', _, h2, h => absurd (by rw [(List.cons.inj h).1]; exact List.mem_cons_self) h2
  | c :: x, [], y, y', h1, _, h => absurd (by rw [← (List.cons.inj h).1]; exact List.mem_cons_self) h1
  | c :: x, d :: x', y, y', h1, h2, h => by
    obtain ⟨e1, e2⟩ := List.cons.inj h
    obtain ⟨e3, e4⟩ := dot_cut (fun q => h1 (List.mem_cons_of_mem _ q)) (fun q => h2 (List.mem_cons_of_mem _ q)) e2
    exact ⟨by rw [e1, e3], e4⟩
/-- The list is the text of a range that has numbers. -/
def RT (l : List UInt8) (a b : Int) : Prop := -1000000 ≤ a ∧ a ≤ b ∧ b ≤ 1000000 ∧ l = Lib.itoa a ++ 46 :: 46 :: Lib.itoa b
theorem RT_inj {l : List UInt8} {a b c d : Int} (h : RT l a b) (h' : RT l c d) : a = c ∧ b = d := by
  obtain ⟨e1, e2⟩ := dot_cut (itoa_dot a) (itoa_dot c) (h.2.2.2.symm.trans h'.2.2.2)
  exact ⟨itoa_inj e1, itoa_inj (List.cons.inj e2).2⟩
abbrev noneL : List UInt8 := [110, 111, 110, 101]
open Classical in
noncomputable def rread (l : List UInt8) : Int × Int × Bool := if l = noneL then (1, 0, true) else if h : ∃ p : Int × Int, RT l p.1 p.2 then (h.choose.1, h.choose.2, true) else (0, 0, false)
theorem rread_RT {l : List UInt8} {a b : Int} (hn : l ≠ noneL) (h : RT l a b) : rread l = (a, b, true) := by
  have hx : ∃ p : Int × Int, RT l p.1 p.2 := ⟨(a, b), h⟩
  unfold rread
  rw [if_neg hn, dif_pos hx]
  obtain ⟨e1, e2⟩ := RT_inj hx.choose_spec h
  rw [e1, e2]
theorem rread_no {l : List UInt8} (hn : l ≠ noneL) (h : ∀ a b, ¬ RT l a b) : rread l = (0, 0, false) := by
  unfold rread
  rw [if_neg hn, dif_neg]
  rintro ⟨p, hp⟩
  exact h _ _ hp
theorem rread_none : rread noneL = (1, 0, true) := by unfold rread; rw [if_pos rfl]
theorem cut_len (l sep : List UInt8) : (Lib.cut l sep).1.length ≤ l.length ∧ (Lib.cut l sep).2.1.length ≤ l.length := by
  unfold Lib.cut
  split
  · refine ⟨?_, ?_⟩
    · simp only [List.length_take]; omega
    · simp only [List.length_drop]; omega
  · exact ⟨Nat.le_refl _, Nat.zero_le _⟩
theorem cut_RT {l : List UInt8} {a b : Int} (h : RT l a b) : Lib.cut l [46, 46] = (Lib.itoa a, Lib.itoa b, true) := by
  have h' := h
  obtain ⟨h1, h2, h3, h4⟩ := h
  have hi : Lib.index l [46, 46] = ((Lib.itoa a).length : Nat) := by
    refine Lib.index_first (by rw [h4]; simp) ?_ ?_
    · rw [h4]; unfold Lib.occAt; simp
    · intro j hj
      cases e : Lib.occAt l [46, 46] j with
      | false => rfl
      | true =>
        have := Lib.occAt_head (c := 46) (t := [46]) rfl e
        rw [h4, List.getElem?_append_left hj] at this
        exact absurd (List.mem_of_getElem? this) (itoa_dot a)
  unfold Lib.cut
  rw [hi, if_pos (by omega), h4]
  simp
theorem rtext_RT {a b : Int} {l : List UInt8} (h : RT l a b) : (rtext a b).toList = l := by
  obtain ⟨h1, h2, h3, h4⟩ := h
  unfold rtext
  rw [if_pos ((okR_iff a b).2 (.inr ⟨by omega, by omega, h2⟩)), if_neg (by simp; omega), toL, app_mk', app_mk', h4]
  simp
theorem rtext_back {a b : Int} {l : List UInt8} (hn : l ≠ noneL) (h0 : l ≠ []) (h : (rtext a b).toList = l) : RT l a b := by
  unfold rtext at h
  by_cases hok : okR a b = true
  · rw [if_pos hok] at h
    by_cases h10 : (a == 1 && b == 0) = true
    · rw [if_pos h10, toL] at h
      exact absurd h.symm hn
    · rw [if_neg h10, toL, app_mk', app_mk'] at h
      rcases (okR_iff a b).1 hok with ⟨rfl, rfl⟩ | ⟨p1, p2, p3⟩
      · simp at h10
      · exact ⟨by omega, p3, by omega, by rw [← h]; simp⟩
  · rw [if_neg hok, toL] at h
    exact absurd h.symm h0
theorem i_rread (s : ByteArray) (hs : s.size ≤ 1048576) : impl_RangeRead.f s = some (rread s.data.toList) := by
  have hz := sizeL s
  unfold impl_RangeRead.f
  rw [toL]
  by_cases h : s.data.toList = noneL
  · rw [if_pos h, h, rread_none]
  · rw [if_neg h]
    unfold strings_Cut.f
    rw [if_pos (by omega)]
    simp only [Option.bind_some]
    obtain ⟨l1, l2⟩ := cut_len s.data.toList [46, 46]
    unfold impl_readNum.f
    rw [if_pos (by rw [sizeL]; simp only [mkL]; exact Nat.le_trans l1 (by omega)), if_pos (by rw [sizeL]; simp only [mkL]; exact Nat.le_trans l2 (by omega))]
    simp only [Option.bind_some, mkL]
    by_cases hx : ∃ p : Int × Int, RT s.data.toList p.1 p.2
    · obtain ⟨⟨a, b⟩, hr⟩ := hx
      rw [cut_RT hr, rread_RT h hr]
      have hr' := hr
      obtain ⟨r1, r2, r3, r4⟩ := hr
      simp only at r1 r2 r3
      rw [numOf_itoa a r1 (by omega), numOf_itoa b (by omega) r3]
      simp only [if_true, i_rtext, Option.bind_some]
      rw [if_pos (rtext_RT hr')]
    · rw [rread_no h (fun a b hr => hx ⟨(a, b), hr⟩)]
      cases e1 : (numOf (Lib.cut s.data.toList [46, 46]).1).2 with
      | false => simp
      | true =>
        cases e2 : (numOf (Lib.cut s.data.toList [46, 46]).2.1).2 with
        | false => simp
        | true =>
          simp only [if_true, i_rtext, Option.bind_some]
          rw [if_neg]
          intro ht
          have h0 : s.data.toList ≠ [] := by
            intro h0
            rw [h0] at e1
            exact absurd e1 (by decide)
          exact hx ⟨(_, _), rtext_back h h0 ht⟩
theorem noneL_dot {l : List UInt8} {a b : Int} (h : RT l a b) : l ≠ noneL := by
  rintro rfl
  have : (46 : UInt8) ∈ noneL := by rw [h.2.2.2]; simp
  exact absurd this (by decide)
theorem rtext_cases {a b : Int} (h : okR a b = true) : (a = 1 ∧ b = 0 ∧ (rtext a b).data.toList = noneL) ∨ RT (rtext a b).data.toList a b := by
  by_cases h2 : (a == 1 && b == 0) = true
  · simp only [Bool.and_eq_true, beq_iff_eq] at h2
    obtain ⟨rfl, rfl⟩ := h2
    exact .inl ⟨rfl, rfl, rfl⟩
  · rcases (okR_iff a b).1 h with ⟨rfl, rfl⟩ | ⟨p1, p2, p3⟩
    · simp at h2
    · refine .inr ⟨p1, p3, p2, ?_⟩
      unfold rtext
      rw [if_pos h, if_neg h2, app_mk', app_mk']
      simp
theorem rtext_small (a b : Int) : (rtext a b).size ≤ 30 := by
  by_cases h : okR a b = true
  · rw [sizeL]
    rcases rtext_cases h with ⟨rfl, rfl, e⟩ | e
    · rw [e]; decide
    · rw [e.2.2.2]
      have := itoa_len8 a (by have := e.1; omega) (by have := e.2.1; have := e.2.2.1; omega)
      have := itoa_len8 b (by have := e.1; have := e.2.1; omega) (by have := e.2.2.1; omega)
      simp; omega
  · unfold rtext; rw [if_neg h]; decide
theorem rread_rtext {a b : Int} (h : okR a b = true) : rread (rtext a b).data.toList = (a, b, true) := by
  rcases rtext_cases h with ⟨rfl, rfl, e⟩ | e
  · rw [e, rread_none]
  · exact rread_RT (noneL_dot e) e
end Go.Proofs.YtmibaaicadgchaaDoor.Q
namespace Go.Proofs.YtmibaaicadgchaaDoor.Q
open Go.RowKit Go.Proofs.YtmibaaicadgchaaDoorW.PrintWords Go.Proofs.YtmibaaicadgchaaDoorW.PrintLast Go.Proofs.YtmibaaicadgchaaDoorW.PrintMore
open Go.Proofs.YtmibaaicadgchaaDoor.Open
set_option linter.unusedSimpArgs false
set_option linter.unusedVariables false
abbrev sfx : List UInt8 := [32, 111, 114, 32, 117, 110, 119, 114, 105, 116, 116, 101, 110]
noncomputable def vread (l : List UInt8) : Int × Int × Bool × Bool :=
  if 13 ≤ l.length ∧ l.drop (l.length - 13) = sfx then (if (rread (l.take (l.length - 13))).2.2 = true then ((rread (l.take (l.length - 13))).1, (rread (l.take (l.length - 13))).2.1, false, true) else (0, 0, false, false))
  else (if (rread l).2.2 = true then ((rread l).1, (rread l).2.1, true, true) else (0, 0, false, false))
theorem i_hassuf (s p : ByteArray) (hs : s.size ≤ 1048576) (hp : p.size ≤ 1048576) : stringslite_HasSuffix.f s p = some (decide (p.size ≤ s.size) && (s.data.toList.drop (s.size - p.size) == p.data.toList)) := by
  unfold stringslite_HasSuffix.f
  by_cases h : p.size ≤ s.size
  · rw [if_pos (by omega), w64 (by omega) (by omega), if_pos (by omega), if_pos (by omega), toL, toL, ext_all, show ((s.size : Int) - (p.size : Int)).toNat = s.size - p.size by omega]
    simp [h]
  · rw [if_neg (by omega)]; simp [h]
theorem i_cutsuf (s p : ByteArray) (hs : s.size ≤ 1048576) (hp : p.size ≤ 1048576) : strings_CutSuffix.f s p = some (if p.size ≤ s.size ∧ s.data.toList.drop (s.size - p.size) = p.data.toList then (s.extract 0 (s.size - p.size), true) else (s, false)) := by
  unfold strings_CutSuffix.f stringslite_CutSuffix.f
  rw [i_hassuf s p hs hp]
  simp only [Option.bind_some]
  by_cases h : p.size ≤ s.size ∧ s.data.toList.drop (s.size - p.size) = p.data.toList
  · rw [if_pos (by simp [h.1, h.2]), if_pos h, w64 (by omega) (by omega), if_pos (by omega), if_pos (by omega), show ((s.size : Int) - (p.size : Int)).toNat = s.size - p.size by omega]; rfl
  · rw [if_neg (by simpa using h), if_neg h]; rfl
theorem i_cutsfx (s : ByteArray) (hs : s.size ≤ 1048576) : strings_CutSuffix.f s (⟨#[32, 111, 114, 32, 117, 110, 119, 114, 105, 116, 116, 101, 110]⟩ : ByteArray) = some (if 13 ≤ s.size ∧ s.data.toList.drop (s.size - 13) = sfx then (s.extract 0 (s.size - 13), true) else (s, false)) :=
  i_cutsuf s _ hs (by decide)
theorem i_vread (s : ByteArray) (hs : s.size ≤ 1048576) : impl_ValRead.f s = some (vread s.data.toList) := by
  have hz := sizeL s
  unfold impl_ValRead.f
  rw [i_cutsfx s hs]
  simp only [Option.bind_some]
  unfold vread
  rw [← hz]
  by_cases h : 13 ≤ s.size ∧ s.data.toList.drop (s.size - 13) = sfx
  · rw [if_pos h, if_pos h, i_rread _ (by rw [sizeL, ext_head, List.length_take]; omega), ext_head]
    simp only [Option.bind_some]
    split <;> rfl
  · rw [if_neg h, if_neg h, i_rread _ hs]
    simp only [Option.bind_some]
    split <;> rfl
/-- The text of what is said of a cell. -/
def vtextL (a b : Int) (s : Bool) : List UInt8 := if s = true then (rtext a b).data.toList else (rtext a b).data.toList ++ sfx
theorem rtext_sp {a b : Int} (h : okR a b = true) : (32 : UInt8) ∉ (rtext a b).data.toList := by
  rcases rtext_cases h with ⟨rfl, rfl, e⟩ | e
  · rw [e]; decide
  · rw [e.2.2.2]
    intro q
    have no : ∀ n : Int, (32 : UInt8) ∉ Lib.itoa n := fun n q => by
      rcases itoa_chars n 32 q with h | h
      · cases h
      · unfold isDig at h; simp at h
    rcases List.mem_append.1 q with q | q
    · exact no a q
    · rcases List.mem_cons.1 q with q | q
      · cases q
      · rcases List.mem_cons.1 q with q | q
        · cases q
        · exact no b q
theorem vread_vtext {a b : Int} (s : Bool) (h : okR a b = true) : vread (vtextL a b s) = (a, b, s, true) := by
  unfold vread vtextL
  cases s with
  | true =>
    simp only [if_true]
    rw [if_neg, rread_rtext h]
    · simp
    · rintro ⟨_, q⟩
      have : (32 : UInt8) ∈ (rtext a b).data.toList := List.mem_of_mem_drop (i := (rtext a b).data.toList.length - 13) (by rw [q]; decide)
      exact rtext_sp h this
  | false =>
    simp only [Bool.false_eq_true, if_false]
    have e : ((rtext a b).data.toList ++ sfx).length - 13 = (rtext a b).data.toList.length := by simp
    rw [e, if_pos ⟨by simp, by simp⟩]
    simp only [List.take_left']
    rw [rread_rtext h]
    simp
end Go.Proofs.YtmibaaicadgchaaDoor.Q
namespace Go.Proofs.YtmibaaicadgchaaDoor.Q
open Go.RowKit Go.Proofs.YtmibaaicadgchaaDoorW.PrintWords Go.Proofs.YtmibaaicadgchaaDoorW.PrintLast Go.Proofs.YtmibaaicadgchaaDoorW.PrintMore
open Go.Proofs.YtmibaaicadgchaaDoor.Open
set_option linter.unusedSimpArgs false
set_option linter.unusedVariables false
theorem tm {a n : Int} (h : 0 ≤ a) (hn : 0 < n) : 0 ≤ Int.tmod a n ∧ Int.tmod a n < n := by
  rw [Int.tmod_eq_emod_of_nonneg h]
  exact ⟨Int.emod_nonneg _ (by omega), Int.emod_lt_of_pos _ hn⟩
theorem td {a : Int} (h : 0 ≤ a) : 0 ≤ Int.tdiv a 7 ∧ Int.tdiv a 7 ≤ a := by
  rw [Int.tdiv_eq_ediv_of_nonneg h]; omega
def Bytes (l : List Int) : Prop := ∀ x ∈ l, 0 ≤ x ∧ x ≤ 255
theorem rd_byte {l : List Int} (h : Bytes l) (i : Int) : 0 ≤ rd l i ∧ rd l i ≤ 255 := by
  unfold rd
  rcases Nat.lt_or_ge i.toNat l.length with h1 | h1
  · have : l.getD i.toNat 0 = l[i.toNat] := by simp [h1]
    rw [this]; exact h _ (List.getElem_mem h1)
  · have : l.getD i.toNat 0 = 0 := by simp [h1]
    rw [this]; omega
theorem bytes_of {l : List Int} (h : ∀ x ∈ l, (Lit.int .u8 x).wf = true) : Bytes l := by
  intro x hx
  have := h x hx
  have e : (decide ((0 : Int) ≤ x) && decide (x ≤ 255)) = true := this
  simp only [Bool.and_eq_true, decide_eq_true_eq] at e
  exact e
theorem pick_ok {code : List Int} (hb : Bytes code) (hl : code.length ≤ 1048576) {at_ seed n : Int} (h0 : 0 ≤ at_) (h1 : at_ ≤ 4611686018427387904) (h2 : 0 ≤ seed) (h3 : seed < 65521) (hn : 1 ≤ n) (hn2 : n ≤ 100000000) :
    ∃ v at1 seed1, spec_l01Cur_pick.f code at_ seed n = some (v, at1, seed1) ∧ 0 ≤ v ∧ v < n ∧ 0 ≤ at1 ∧ at1 ≤ at_ + 2 ∧ 0 ≤ seed1 ∧ seed1 < 65521 := by
  unfold spec_l01Cur_pick.f
  by_cases c1 : n < 2
  · rw [if_pos c1]; exact ⟨_, _, _, rfl, by omega, by omega, by omega, by omega, by omega, by omega⟩
  rw [if_neg c1]
  have e1 : wrap64 (at_ + 1) = at_ + 1 := w64 (by omega) (by omega)
  have e2 : wrap64 (at_ + 1 + 1) = at_ + 2 := by rw [w64 (by omega) (by omega)]; omega
  have b0 := rd_byte hb at_
  have b1 := rd_byte hb (at_ + 1)
  by_cases c2 : at_ < (code.length : Int)
  · rw [if_pos c2, if_pos h0, w64 (n := rd code at_) (by omega) (by omega)]
    have t0 := tm b0.1 (show 0 < n by omega)
    by_cases c3 : n > 200
    · rw [if_pos c3, e1]
      by_cases c4 : at_ + 1 < (code.length : Int)
      · rw [if_pos c4, if_pos (by omega), if_neg (by omega), e2, w64 (n := rd code (at_ + 1)) (by omega) (by omega), w64 (n := 256 * rd code at_) (by omega) (by omega), w64 (n := 256 * rd code at_ + rd code (at_ + 1)) (by omega) (by omega)]
        have t1 := tm (show 0 ≤ 256 * rd code at_ + rd code (at_ + 1) by omega) (show 0 < n by omega)
        exact ⟨_, _, _, rfl, t1.1, t1.2, by omega, by omega, h2, h3⟩
      · rw [if_neg c4, if_neg (by omega)]
        exact ⟨_, _, _, rfl, t0.1, t0.2, by omega, by omega, h2, h3⟩
    · rw [if_neg c3, if_neg (by omega), e1]
      exact ⟨_, _, _, rfl, t0.1, t0.2, by omega, by omega, h2, h3⟩
  · rw [if_neg c2, w64 (n := seed * 1103) (by omega) (by omega), w64 (n := seed * 1103 + 12345) (by omega) (by omega), e1]
    have t0 := tm (show 0 ≤ seed * 1103 + 12345 by omega) (show (0 : Int) < 65521 by omega)
    generalize Int.tmod (seed * 1103 + 12345) 65521 = s at t0 ⊢
    have d0 := td t0.1
    generalize Int.tdiv s 7 = u at d0 ⊢
    by_cases c3 : (code.length : Int) > 0
    · have t1 := tm h0 c3
      have b2 := rd_byte hb (Int.tmod at_ (code.length : Int))
      rw [if_pos c3, if_neg (by omega), if_pos t1.1, if_pos t1.2, if_neg (by omega)]
      generalize rd code (Int.tmod at_ (code.length : Int)) = r at b2 ⊢
      rw [w64 (n := u) (by omega) (by omega), w64 (n := r) (by omega) (by omega), w64 (n := u + r) (by omega) (by omega)]
      have t2 := tm (show 0 ≤ u + r by omega) (show 0 < n by omega)
      exact ⟨_, _, _, rfl, t2.1, t2.2, by omega, by omega, t0.1, t0.2⟩
    · rw [if_neg c3, if_neg (by omega)]
      exact ⟨_, _, _, rfl, by simp, by simp; omega, by omega, by omega, t0.1, t0.2⟩
theorem number_ok {code : List Int} (hb : Bytes code) (hl : code.length ≤ 1048576) {at_ seed : Int} (h0 : 0 ≤ at_) (h1 : at_ ≤ 4611686018427387900) (h2 : 0 ≤ seed) (h3 : seed < 65521) :
    ∃ v at1 seed1, spec_l01Cur_number.f code at_ seed = some (v, at1, seed1) ∧ 0 ≤ at1 ∧ at1 ≤ at_ + 4 ∧ 0 ≤ seed1 ∧ seed1 < 65521 := by
  unfold spec_l01Cur_number.f
  obtain ⟨v, a1, s1, e, p1, p2, p3, p4, p5, p6⟩ := pick_ok hb hl h0 (by omega) h2 h3 (n := 8) (by omega) (by omega)
  rw [e]; simp only [Option.bind_some]
  by_cases c1 : v = 0
  · rw [if_pos c1]
    obtain ⟨v', a2, s2, e', q1, q2, q3, q4, q5, q6⟩ := pick_ok hb hl p3 (by omega) p5 p6 (n := 256) (by omega) (by omega)
    rw [e']; exact ⟨_, a2, s2, rfl, q3, by omega, q5, q6⟩
  rw [if_neg c1]
  by_cases c2 : v = 1
  · rw [if_pos c2]
    obtain ⟨v', a2, s2, e', q1, q2, q3, q4, q5, q6⟩ := pick_ok hb hl p3 (by omega) p5 p6 (n := 8) (by omega) (by omega)
    rw [e']; simp only [Option.bind_some]
    rw [if_pos q1, if_pos (by simpa using q2)]
    exact ⟨_, a2, s2, rfl, q3, by omega, q5, q6⟩
  rw [if_neg c2]
  by_cases c3 : v = 2
  · rw [if_pos c3]
    obtain ⟨v', a2, s2, e', q1, q2, q3, q4, q5, q6⟩ := pick_ok hb hl p3 (by omega) p5 p6 (n := 65000) (by omega) (by omega)
    rw [e']; exact ⟨_, a2, s2, rfl, q3, by omega, q5, q6⟩
  rw [if_neg c3]
  obtain ⟨v', a2, s2, e', q1, q2, q3, q4, q5, q6⟩ := pick_ok hb hl p3 (by omega) p5 p6 (n := 12) (by omega) (by omega)
  rw [e']; exact ⟨_, a2, s2, rfl, q3, by omega, q5, q6⟩
end Go.Proofs.YtmibaaicadgchaaDoor.Q
namespace Go.Proofs.YtmibaaicadgchaaDoor.Q
open Go.RowKit Go.Proofs.YtmibaaicadgchaaDoorW.PrintWords Go.Proofs.YtmibaaicadgchaaDoorW.PrintLast Go.Proofs.YtmibaaicadgchaaDoorW.PrintMore
open Go.Proofs.YtmibaaicadgchaaDoor.Open
set_option linter.unusedSimpArgs false
set_option linter.unusedVariables false
theorem drawR_ok {code : List Int} (hb : Bytes code) (hl : code.length ≤ 1048576) {at_ seed : Int} (h0 : 0 ≤ at_) (h1 : at_ ≤ 4611686018427387000) (h2 : 0 ≤ seed) (h3 : seed < 65521) :
    ∃ a b at1 seed1, spec_l06DrawRange.f code at_ seed = some (a, b, at1, seed1) ∧ 0 ≤ at1 ∧ at1 ≤ at_ + 10 ∧ 0 ≤ seed1 ∧ seed1 < 65521 := by
  unfold spec_l06DrawRange.f spec_l06None.f
  obtain ⟨v, a1, s1, e, p1, p2, p3, p4, p5, p6⟩ := pick_ok hb hl h0 (by omega) h2 h3 (n := 9) (by omega) (by omega)
  rw [e]; simp only [Option.bind_some, s_val, s_make]
  by_cases c1 : v = 0
  · rw [if_pos c1]; exact ⟨_, _, a1, s1, rfl, p3, by omega, p5, p6⟩
  rw [if_neg c1]
  by_cases c2 : v = 1
  · rw [if_pos c2]; exact ⟨_, _, a1, s1, rfl, p3, by omega, p5, p6⟩
  rw [if_neg c2]
  by_cases c3 : v = 2
  · rw [if_pos c3]
    obtain ⟨v', a2, s2, e', q1, q2, q3, q4, q5, q6⟩ := pick_ok hb hl p3 (by omega) p5 p6 (n := 9) (by omega) (by omega)
    rw [e']; exact ⟨_, _, a2, s2, rfl, q3, by omega, q5, q6⟩
  rw [if_neg c3]
  obtain ⟨x, a2, s2, e2, q3, q4, q5, q6⟩ := number_ok hb hl p3 (by omega) p5 p6
  rw [e2]; simp only [Option.bind_some]
  by_cases c4 : v = 3
  · rw [if_pos c4]
    obtain ⟨y, a3, s3, e3, r3, r4, r5, r6⟩ := number_ok hb hl q3 (by omega) q5 q6
    rw [e3]; exact ⟨_, _, a3, s3, rfl, r3, by omega, r5, r6⟩
  rw [if_neg c4]
  obtain ⟨y, a3, s3, e3, r1, r2, r3, r4, r5, r6⟩ := pick_ok hb hl q3 (by omega) q5 q6 (n := 20) (by omega) (by omega)
  rw [e3]; simp only [Option.bind_some]
  split
  · exact ⟨_, _, a3, s3, rfl, r3, by omega, r5, r6⟩
  · exact ⟨_, _, a3, s3, rfl, r3, by omega, r5, r6⟩
theorem steps_l1 {code : List Int} (hb : Bytes code) (hl : code.length ≤ 1048576) : ∀ t k (x3 : List Int) (x4 at_ seed : Int), x3.length + t = 22 → t < k → 0 ≤ at_ → at_ + 2 * (t + 1 : Nat) ≤ 4611686018427387904 → 0 ≤ seed → seed < 65521 →
    ∃ out at1 seed1, spec_l06DrawSteps.l1 k x3 x4 code at_ seed = some (out, at1, seed1) ∧ out.length ≤ 22
  | t, k + 1, x3, x4, at_, seed, h, hk, h0, h1, h2, h3 => by
    unfold spec_l06DrawSteps.l1
    obtain ⟨v, a1, s1, e, p1, p2, p3, p4, p5, p6⟩ := pick_ok hb hl h0 (by omega) h2 h3 (n := 2) (by omega) (by omega)
    rw [e]; simp only [Option.bind_some]
    rw [w64 (by omega) (by omega)]
    by_cases c : (x3.length : Int) < 20 + v
    · rw [if_pos c, if_pos (by omega)]
      cases t with
      | zero => omega
      | succ t => exact steps_l1 hb hl t k _ _ a1 s1 (by simp; omega) (by omega) p3 (by omega) p5 p6
    · rw [if_neg c]
      exact ⟨_, _, _, rfl, by omega⟩
theorem steps_l0 {code : List Int} (hb : Bytes code) (hl : code.length ≤ 1048576) : ∀ t k (x3 : List Int) (x4 at_ seed : Int), x3.length + t ≤ 7 → t + 40 < k → 0 ≤ at_ → at_ + 2 * (t + 100 : Nat) ≤ 4611686018427387904 → 0 ≤ seed → seed < 65521 →
    ∃ out at1 seed1, spec_l06DrawSteps.l0 k x3 x4 (t : Int) code at_ seed = some (out, at1, seed1) ∧ out.length ≤ 22
  | 0, k + 1, x3, x4, at_, seed, h, hk, h0, h1, h2, h3 => by
    unfold spec_l06DrawSteps.l0
    rw [if_neg (by omega)]
    obtain ⟨v, a1, s1, e, p1, p2, p3, p4, p5, p6⟩ := pick_ok hb hl h0 (by omega) h2 h3 (n := 30) (by omega) (by omega)
    rw [e]; simp only [Option.bind_some]
    by_cases c1 : v = 0
    · rw [if_pos c1, if_pos (by omega)]; exact ⟨_, _, _, rfl, by simp; omega⟩
    rw [if_neg c1]
    by_cases c2 : v = 1
    · rw [if_pos c2]
      obtain ⟨v', a2, s2, e', q1, q2, q3, q4, q5, q6⟩ := pick_ok hb hl p3 (by omega) p5 p6 (n := 2) (by omega) (by omega)
      rw [e']; simp only [Option.bind_some]
      rw [if_pos (by omega)]; exact ⟨_, _, _, rfl, by simp; omega⟩
    rw [if_neg c2]
    by_cases c3 : v = 2
    · rw [if_pos c3]
      exact steps_l1 hb hl (22 - x3.length) k x3 x4 a1 s1 (by omega) (by omega) p3 (by omega) p5 p6
    · rw [if_neg c3]; exact ⟨_, _, _, rfl, by omega⟩
  | t + 1, k + 1, x3, x4, at_, seed, h, hk, h0, h1, h2, h3 => by
    unfold spec_l06DrawSteps.l0
    rw [if_pos (by omega)]
    obtain ⟨v, a1, s1, e, p1, p2, p3, p4, p5, p6⟩ := pick_ok hb hl h0 (by omega) h2 h3 (n := 25) (by omega) (by omega)
    rw [e]; simp only [Option.bind_some]
    rw [if_pos (by omega), w64 (n := ((t + 1 : Nat) : Int) - 1) (by omega) (by omega), show ((t + 1 : Nat) : Int) - 1 = (t : Int) by omega]
    exact steps_l0 hb hl t k _ _ a1 s1 (by simp; omega) (by omega) p3 (by omega) p5 p6
theorem steps_ok {code : List Int} (hb : Bytes code) (hl : code.length ≤ 1048576) {at_ seed : Int} (h0 : 0 ≤ at_) (h1 : at_ ≤ 4611686018427387000) (h2 : 0 ≤ seed) (h3 : seed < 65521) (k : Nat) (hk : 60 ≤ k) :
    ∃ out at1 seed1, spec_l06DrawSteps.f k code at_ seed = some (out, at1, seed1) ∧ out.length ≤ 22 := by
  unfold spec_l06DrawSteps.f
  obtain ⟨v, a1, s1, e, p1, p2, p3, p4, p5, p6⟩ := pick_ok hb hl h0 (by omega) h2 h3 (n := 7) (by omega) (by omega)
  rw [e]; simp only [Option.bind_some]
  obtain ⟨t, rfl⟩ : ∃ t : Nat, v = (t : Int) := ⟨v.toNat, by omega⟩
  exact steps_l0 hb hl t k [] (-30) a1 s1 (by simp; omega) (by omega) p3 (by omega) p5 p6
theorem drawWiden_ok {code : List Int} (hb : Bytes code) (hl : code.length ≤ 1048576) (k : Nat) (hk : 60 ≤ k) :
    ∃ a b c d out, spec_DrawRangeWiden.f k code = some (a, b, c, d, out) ∧ out.length ≤ 22 := by
  unfold spec_DrawRangeWiden.f spec_l01Open.f
  simp only [Option.bind_some]
  obtain ⟨a, b, a1, s1, e, p3, p4, p5, p6⟩ := drawR_ok hb hl (at_ := 0) (seed := 7 + ((code.length : Int) % 1000)) (by omega) (by omega) (by omega) (by omega)
  rw [e]; simp only [Option.bind_some]
  obtain ⟨c, d, a2, s2, e2, q3, q4, q5, q6⟩ := drawR_ok hb hl p3 (by omega) p5 p6
  rw [e2]; simp only [Option.bind_some]
  obtain ⟨out, a3, s3, e3, r⟩ := steps_ok hb hl q3 (by omega) q5 q6 k hk
  rw [e3]; exact ⟨_, _, _, _, _, rfl, r⟩
end Go.Proofs.YtmibaaicadgchaaDoor.Q
