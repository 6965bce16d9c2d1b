/- RangeMeet of the program and of the reference, as one plain function. -/
import Derived.Test.YthkdkcdbjbihkaaDoorQRng3
import Derived.Test.YthkdkcdbjbihkaaDoorQOpen
import Derived.Test.YthkdkcdbjbihkaaDoorQx17
import Derived.Test.YthkdkcdbjbihkaaDoorQx19
import Derived.Test.YthkdkcdbjbihkaaDoorQx2
namespace Go.Proofs.YthkdkcdbjbihkaaDoor.Q
open Go.RowKit Go.Proofs.YthkdkcdbjbihkaaDoorW.PrintWords Go.Proofs.YthkdkcdbjbihkaaDoorW.PrintLast Go.Proofs.YthkdkcdbjbihkaaDoorW.PrintMore
open Go.Proofs.YthkdkcdbjbihkaaDoor.Open
set_option linter.unusedSimpArgs false
set_option linter.unusedVariables false
theorem s_meet (a b c d : Int) : spec_RangeMeet.f a b c d = some (iteR (smR a b && smR c d) (mx a c) (mn b d)) := by
  unfold spec_RangeMeet.f iteR spec_l06None.f
  simp only [s_both, Option.bind_some, s_make, s_max, s_min]
  have e1 : (if c < a then a else c) = mx a c := by unfold mx; split <;> split <;> omega
  have e2 : (if b < d then b else d) = mn b d := by unfold mn; split <;> split <;> omega
  rw [e1, e2]
  split <;> rfl
theorem i_meet (k : Nat) (a b c d : Int) : impl_RangeMeet.f (k + 3) a b c d = some (iteR (smR a b && smR c d) (mx a c) (mn b d)) := by
  unfold impl_RangeMeet.f iteR
  simp only [i_are2, Option.bind_some, i_of]
  split <;> rfl
end Go.Proofs.YthkdkcdbjbihkaaDoor.Q
