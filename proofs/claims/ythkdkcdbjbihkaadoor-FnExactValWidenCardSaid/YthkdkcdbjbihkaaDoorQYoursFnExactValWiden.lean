/- The law FnExactValWiden holds: the program's ValWiden and the reference's answer alike, at all arguments, and the program leaves the steps as they were. No conditions. -/
import Derived.Test.YthkdkcdbjbihkaaDoorQPureFnExactValWiden
import Derived.Test.YthkdkcdbjbihkaaDoorQWiden
import Derived.Test.YthkdkcdbjbihkaaDoorQVal
import Derived.Test.YthkdkcdbjbihkaaDoorQInts
import Derived.Test.YthkdkcdbjbihkaaDoorQOpen
import Derived.Test.YthkdkcdbjbihkaaDoorQx10
import Derived.Test.YthkdkcdbjbihkaaDoorQx11
import Derived.Test.YthkdkcdbjbihkaaDoorQx12
import Derived.Test.YthkdkcdbjbihkaaDoorQx13
import Derived.Test.YthkdkcdbjbihkaaDoorQx15
import Derived.Test.YthkdkcdbjbihkaaDoorQx3
import Derived.Test.YthkdkcdbjbihkaaDoorQx5
namespace Go.Proofs.YthkdkcdbjbihkaaDoor.Q
open Go.RowKit Go.Proofs.YthkdkcdbjbihkaaDoorW.PrintWords Go.Proofs.YthkdkcdbjbihkaaDoorW.PrintLast Go.Proofs.YthkdkcdbjbihkaaDoorW.PrintMore
open Go.Proofs.YthkdkcdbjbihkaaDoor.Open
set_option linter.unusedSimpArgs false
set_option linter.unusedVariables false
def widV (a b : Int) (s : Bool) (c d : Int) (t : Bool) (l : List Int) : Int × Int × Bool := if (okR a b && okR c d && stOk l) = true then ((widR a b c d l).1, (widR a b c d l).2, s && t) else (1, 0, true)
theorem i_vwid (k : Nat) (a b : Int) (s : Bool) (c d : Int) (t : Bool) (l : List Int) (hn : l.length ≤ 1048576) (hk : 2 * l.length + 8 ≤ k) : impl_ValWiden.f k a b s c d t l = some (widV a b s c d t l) := by
  unfold impl_ValWiden.f widV
  simp only [i_vok, i_wid k a b c d l hn hk, i_steps k l hn (by omega), Option.bind_some]
  cases okR a b <;> cases okR c d <;> cases s <;> cases stOk l <;> simp
theorem s_vwid (k : Nat) (a b : Int) (s : Bool) (c d : Int) (t : Bool) (l : List Int) (hn : l.length ≤ 1048576) (hk : 2 * l.length + 8 ≤ k) : spec_ValWiden.f (k + 1) a b s c d t l = some (widV a b s c d t l) := by
  unfold spec_ValWiden.f spec_ValWiden.j0 widV spec_l09None.f spec_l06None.f
  simp only [s_vok, s_wid k a b c d l hn hk, s_steps (k + 1) l hn (by omega), Option.bind_some]
  cases okR a b <;> cases okR c d <;> cases s <;> cases stOk l <;> simp
theorem yoursFnExactValWiden : laws_FnExactValWiden.Pure := by
  intro a b s c d t l _ _ _ _ _
  refine ⟨2 * l.length + 12, ?_⟩
  unfold laws_FnExactValWiden.f
  split
  · rfl
  · have hn : l.length ≤ 1048576 := by omega
    unfold laws_FnExactValWiden.j0
    unfold laws_FnExactValWiden.j1
    unfold laws_toVal.f laws_toRange.f
    simp only [Option.bind_some, toInts _ l (show l.length < 2 * l.length + 12 by omega) hn, s_vwid _ _ _ _ _ _ _ l hn (show 2 * l.length + 8 ≤ 2 * l.length + 11 by omega), i_vwid _ _ _ _ _ _ _ l hn (show 2 * l.length + 8 ≤ 2 * l.length + 11 by omega), eqV]
    simp [toInts (2 * l.length + 10) l (by omega) hn, eqInts (2 * l.length + 10) l (by omega) hn]
end Go.Proofs.YthkdkcdbjbihkaaDoor.Q
