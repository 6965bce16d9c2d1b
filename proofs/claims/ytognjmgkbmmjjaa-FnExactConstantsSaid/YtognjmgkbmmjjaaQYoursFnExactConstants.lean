/- The law FnExactConstants holds: each constant of the program is the one that is listed. No conditions. -/
import Derived.Test.YtognjmgkbmmjjaaQPureFnExactConstants

namespace Go.Proofs.Ytognjmgkbmmjjaa.Q
open Go.RowKit Go.Proofs.YtognjmgkbmmjjaaW.PrintWords Go.Proofs.YtognjmgkbmmjjaaW.PrintLast Go.Proofs.YtognjmgkbmmjjaaW.PrintMore
open Go.Proofs.Ytognjmgkbmmjjaa.Open
theorem yoursFnExactConstants : laws_FnExactConstants.Pure := rfl
end Go.Proofs.Ytognjmgkbmmjjaa.Q
