/- The law FnExactSymOk holds: the program's SymOk and the reference's answer alike, at all arguments. No conditions. -/
import Derived.Test.YtognjmgkbmmjjaaQPureFnExactSymOk
import Derived.Test.YtognjmgkbmmjjaaQx1
import Derived.Test.YtognjmgkbmmjjaaQx3
namespace Go.Proofs.Ytognjmgkbmmjjaa.Q
open Go.RowKit Go.Proofs.YtognjmgkbmmjjaaW.PrintWords Go.Proofs.YtognjmgkbmmjjaaW.PrintLast Go.Proofs.YtognjmgkbmmjjaaW.PrintMore
open Go.Proofs.Ytognjmgkbmmjjaa.Open
theorem inR_SymOk (a b c : Int) : impl_inRange.f a b c = some (decide (b ≤ a) && decide (a ≤ c)) := by
  unfold impl_inRange.f
  by_cases h : b ≤ a <;> simp [h]
theorem btw_SymOk (a b c : Int) : spec_l01Between.f a b c = some (decide (b ≤ a) && decide (a ≤ c)) := by
  unfold spec_l01Between.f
  by_cases h : b ≤ a <;> simp [h]
theorem yoursFnExactSymOk : laws_FnExactSymOk.Pure := by
  intro a b c _ _ _
  unfold laws_FnExactSymOk.f laws_toSym.f spec_SymOk.f impl_SymOk.f impl_isPlace.f
  simp only [Option.bind_some, inR_SymOk, btw_SymOk]
  (repeat' split) <;> simp_all
end Go.Proofs.Ytognjmgkbmmjjaa.Q
