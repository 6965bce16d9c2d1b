/- What is said of cells: the program's and the reference's functions as plain functions. -/
import Derived.Test.YthkdkcdbjbihkaaDoorQRng
import Derived.Test.YthkdkcdbjbihkaaDoorQOpen
import Derived.Test.YthkdkcdbjbihkaaDoorQx10
import Derived.Test.YthkdkcdbjbihkaaDoorQx12
import Derived.Test.YthkdkcdbjbihkaaDoorQx14
namespace Go.Proofs.YthkdkcdbjbihkaaDoor.Q
open Go.RowKit Go.Proofs.YthkdkcdbjbihkaaDoorW.PrintWords Go.Proofs.YthkdkcdbjbihkaaDoorW.PrintLast Go.Proofs.YthkdkcdbjbihkaaDoorW.PrintMore
open Go.Proofs.YthkdkcdbjbihkaaDoor.Open
set_option linter.unusedSimpArgs false
set_option linter.unusedVariables false
theorem i_vok (a b : Int) (c : Bool) : impl_ValOk.f a b c = some (okR a b) := by unfold impl_ValOk.f; rw [i_ok]; rfl
theorem s_vok (a b : Int) (c : Bool) : spec_ValOk.f a b c = some (okR a b) := by unfold spec_ValOk.f; rw [s_ok]; rfl
theorem eqV (a b : Int) (s : Bool) (c d : Int) (t : Bool) : laws_eqVal.f a b s c d t = some (decide (a = c) && decide (b = d) && (s == t)) := by
  unfold laws_eqVal.f
  simp only [eqR, Option.bind_some]
  by_cases h1 : a = c <;> by_cases h2 : b = d <;> cases s <;> cases t <;> simp [h1, h2]
end Go.Proofs.YthkdkcdbjbihkaaDoor.Q
