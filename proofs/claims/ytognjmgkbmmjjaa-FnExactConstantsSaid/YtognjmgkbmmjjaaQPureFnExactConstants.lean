/- What is left of the law FnExactConstants, stated over numbers and lists alone: no proof in here. -/
import Derived.Test.YtognjmgkbmmjjaaQx1
import Derived.Test.YtognjmgkbmmjjaaQKinds
import Derived.Test.YtognjmgkbmmjjaaQOpen
namespace Go.Proofs.Ytognjmgkbmmjjaa.Q
open Go.RowKit Go.Proofs.YtognjmgkbmmjjaaW.PrintWords Go.Proofs.YtognjmgkbmmjjaaW.PrintLast Go.Proofs.YtognjmgkbmmjjaaW.PrintMore
open Go.Proofs.Ytognjmgkbmmjjaa.Open
/-- What is left of the law FnExactConstants: over numbers and lists alone. -/
def laws_FnExactConstants.Pure : Prop := laws_FnExactConstants.f  = some true
end Go.Proofs.Ytognjmgkbmmjjaa.Q
