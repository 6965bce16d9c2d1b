/- What the program's and the reference's functions make of ranges, as plain functions. -/
import Derived.Test.YtoimomfcdhmnbaaDoorQRng
import Derived.Test.YtoimomfcdhmnbaaDoorQOpen
import Derived.Test.YtoimomfcdhmnbaaDoorQx11
import Derived.Test.YtoimomfcdhmnbaaDoorQx13
import Derived.Test.YtoimomfcdhmnbaaDoorQx2
namespace Go.Proofs.YtoimomfcdhmnbaaDoor.Q
open Go.RowKit Go.Proofs.YtoimomfcdhmnbaaDoorW.PrintWords Go.Proofs.YtoimomfcdhmnbaaDoorW.PrintLast Go.Proofs.YtoimomfcdhmnbaaDoorW.PrintMore
open Go.Proofs.YtoimomfcdhmnbaaDoor.Open
set_option linter.unusedSimpArgs false
set_option linter.unusedVariables false
def joinR (a b c d : Int) : Int × Int := if (okR a b && okR c d) = true then (if (a == 1 && b == 0) = true then (c, d) else if (c == 1 && d == 0) = true then (a, b) else (mn a c, mx b d)) else (1, 0)
theorem i_join (k : Nat) (a b c d : Int) : impl_RangeJoin.f (k + 1) a b c d = some (joinR a b c d) := by
  unfold impl_RangeJoin.f impl_RangeJoin.j0 joinR impl_orOther.f
  simp only [i_ok, Option.bind_some]
  (repeat' split) <;> simp_all
theorem s_join (k : Nat) (a b c d : Int) : spec_RangeJoin.f (k + 1) a b c d = some (joinR a b c d) := by
  unfold spec_RangeJoin.f spec_RangeJoin.j0 joinR
  simp only [s_ok, s_is, s_min, s_max, s_make, Option.bind_some, spec_l06None.f]
  by_cases h1 : okR a b = true
  · by_cases h2 : okR c d = true
    · simp only [h1, h2, if_true, Bool.not_true, Bool.and_self]
      rcases (okR_iff a b).1 h1 with ⟨rfl, rfl⟩ | ⟨p1, p2, p3⟩
      · simp
      · have q1 : decide (a ≤ b) = true := by simpa using p3
        have q2 : (a == 1 && b == 0) = false := by simp; omega
        simp only [q1, q2, if_true, Bool.false_eq_true, if_false]
        rcases (okR_iff c d).1 h2 with ⟨rfl, rfl⟩ | ⟨p4, p5, p6⟩
        · simp
        · have q3 : decide (c ≤ d) = true := by simpa using p6
          have q4 : (c == 1 && d == 0) = false := by simp; omega
          simp only [q3, q4, if_true, Bool.false_eq_true, if_false]
          have e1 : (if a < c then a else c) = mn a c := by unfold mn; split <;> split <;> omega
          have e2 : (if d < b then b else d) = mx b d := by unfold mx; split <;> split <;> omega
          rw [e1, e2, mkR_in]
          · unfold mn; split <;> omega
          · unfold mx; split <;> omega
          · unfold mn mx; split <;> split <;> omega
    · simp [h1, h2]
  · simp [h1]
end Go.Proofs.YtoimomfcdhmnbaaDoor.Q
