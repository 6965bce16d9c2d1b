/- The law FnExactValJoin holds: the program's ValJoin and the reference's answer alike, at all arguments. No conditions. -/
import Derived.Test.YtoimomfcdhmnbaaDoorQPureFnExactValJoin
import Derived.Test.YtoimomfcdhmnbaaDoorQRng2
import Derived.Test.YtoimomfcdhmnbaaDoorQVal
import Derived.Test.YtoimomfcdhmnbaaDoorQOpen
import Derived.Test.YtoimomfcdhmnbaaDoorQx10
import Derived.Test.YtoimomfcdhmnbaaDoorQx12
import Derived.Test.YtoimomfcdhmnbaaDoorQx13
import Derived.Test.YtoimomfcdhmnbaaDoorQx14
import Derived.Test.YtoimomfcdhmnbaaDoorQx16
import Derived.Test.YtoimomfcdhmnbaaDoorQx2
import Derived.Test.YtoimomfcdhmnbaaDoorQx3
namespace Go.Proofs.YtoimomfcdhmnbaaDoor.Q
open Go.RowKit Go.Proofs.YtoimomfcdhmnbaaDoorW.PrintWords Go.Proofs.YtoimomfcdhmnbaaDoorW.PrintLast Go.Proofs.YtoimomfcdhmnbaaDoorW.PrintMore
open Go.Proofs.YtoimomfcdhmnbaaDoor.Open
set_option linter.unusedSimpArgs false
set_option linter.unusedVariables false
def joinV (a b : Int) (s : Bool) (c d : Int) (t : Bool) : Int × Int × Bool := if (okR a b && okR c d) = true then ((joinR a b c d).1, (joinR a b c d).2, s && t) else (1, 0, true)
theorem i_vjoin (k : Nat) (a b : Int) (s : Bool) (c d : Int) (t : Bool) : impl_ValJoin.f (k + 1) a b s c d t = some (joinV a b s c d t) := by
  unfold impl_ValJoin.f joinV
  simp only [i_vok, i_join, Option.bind_some]
  cases okR a b <;> cases okR c d <;> cases s <;> simp
theorem s_vjoin (k : Nat) (a b : Int) (s : Bool) (c d : Int) (t : Bool) : spec_ValJoin.f (k + 2) a b s c d t = some (joinV a b s c d t) := by
  unfold spec_ValJoin.f spec_ValJoin.j0 joinV spec_l09None.f spec_l06None.f
  simp only [s_vok, s_join, Option.bind_some]
  cases okR a b <;> cases okR c d <;> cases s <;> simp
theorem yoursFnExactValJoin : laws_FnExactValJoin.Pure := by
  intro a b c d e f _ _ _ _
  refine ⟨2, ?_⟩
  unfold laws_FnExactValJoin.f laws_toVal.f laws_toRange.f
  simp only [Option.bind_some, s_vjoin 0, i_vjoin 1, eqV]
  simp
end Go.Proofs.YtoimomfcdhmnbaaDoor.Q
