/- What is said of cells: the program's and the reference's functions as plain functions. -/
import Derived.Test.YtognjmgkbmmjjaaDoorQRng
import Derived.Test.YtognjmgkbmmjjaaDoorQOpen
import Derived.Test.YtognjmgkbmmjjaaDoorQx5
import Derived.Test.YtognjmgkbmmjjaaDoorQx7
namespace Go.Proofs.YtognjmgkbmmjjaaDoor.Q
open Go.RowKit Go.Proofs.YtognjmgkbmmjjaaDoorW.PrintWords Go.Proofs.YtognjmgkbmmjjaaDoorW.PrintLast Go.Proofs.YtognjmgkbmmjjaaDoorW.PrintMore
open Go.Proofs.YtognjmgkbmmjjaaDoor.Open
set_option linter.unusedSimpArgs false
set_option linter.unusedVariables false
theorem i_vok (a b : Int) (c : Bool) : impl_ValOk.f a b c = some (okR a b) := by unfold impl_ValOk.f; rw [i_ok]; rfl
theorem s_vok (a b : Int) (c : Bool) : spec_ValOk.f a b c = some (okR a b) := by unfold spec_ValOk.f; rw [s_ok]; rfl
theorem leqR_ok {a b c d : Int} (h : leqR a b c d = true) : okR a b = true ∧ okR c d = true := by
  unfold leqR at h; grind
theorem i_vleq (a b : Int) (s : Bool) (c d : Int) (t : Bool) : impl_ValLeq.f a b s c d t = some (leqR a b c d && (s || !t)) := by
  unfold impl_ValLeq.f
  simp only [i_leq, Option.bind_some]
  (repeat' split) <;> simp_all
theorem s_vleq (a b : Int) (s : Bool) (c d : Int) (t : Bool) : spec_ValLeq.f a b s c d t = some (leqR a b c d && (s || !t)) := by
  unfold spec_ValLeq.f
  simp only [s_vok, s_leq, Option.bind_some]
  by_cases h : leqR a b c d = true
  · obtain ⟨h1, h2⟩ := leqR_ok h
    simp only [h1, h2, h, if_true, Bool.true_and]
    cases s <;> simp
  · simp only [Bool.not_eq_true] at h
    simp only [h, Bool.false_and]
    (repeat' split) <;> simp_all
theorem i_vhas (a b : Int) (s : Bool) (w : Bool) (n : Int) : impl_ValHas.f a b s w n = some (okR a b && (if w then decide (a ≤ n) && decide (n ≤ b) else !s && n == 0)) := by
  unfold impl_ValHas.f
  simp only [i_vok, i_has, Option.bind_some]
  (repeat' split) <;> simp_all [and_assoc, Bool.and_assoc]
theorem s_vhas (a b : Int) (s : Bool) (w : Bool) (n : Int) : spec_ValHas.f a b s w n = some (okR a b && (if w then decide (a ≤ n) && decide (n ≤ b) else !s && n == 0)) := by
  unfold spec_ValHas.f
  simp only [s_vok, s_has, Option.bind_some]
  (repeat' split) <;> simp_all [and_assoc, Bool.and_assoc]
end Go.Proofs.YtognjmgkbmmjjaaDoor.Q
