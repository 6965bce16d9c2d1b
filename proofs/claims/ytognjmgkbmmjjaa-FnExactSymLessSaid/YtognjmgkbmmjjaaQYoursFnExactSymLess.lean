/- The law FnExactSymLess holds: the program's SymLess and the reference's answer alike, at all arguments. No conditions. -/
import Derived.Test.YtognjmgkbmmjjaaQPureFnExactSymLess
import Derived.Test.YtognjmgkbmmjjaaQx1
import Derived.Test.YtognjmgkbmmjjaaQx2
namespace Go.Proofs.Ytognjmgkbmmjjaa.Q
open Go.RowKit Go.Proofs.YtognjmgkbmmjjaaW.PrintWords Go.Proofs.YtognjmgkbmmjjaaW.PrintLast Go.Proofs.YtognjmgkbmmjjaaW.PrintMore
open Go.Proofs.Ytognjmgkbmmjjaa.Open
theorem yoursFnExactSymLess : laws_FnExactSymLess.Pure := by
  intro a b c d _ _ _ _
  unfold laws_FnExactSymLess.f laws_toSym.f spec_SymLess.f impl_SymLess.f
  simp only [Option.bind_some]
  by_cases h1 : a < c <;> by_cases h2 : a = c <;> simp [h1, h2]
end Go.Proofs.Ytognjmgkbmmjjaa.Q
