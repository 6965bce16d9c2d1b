/- What is left of the law FnExactSegLeq, stated over numbers and lists alone: no proof in here. -/
import Derived.Test.YtcdeojfeebmonaaDoorQXFnExactSegLeq
import Derived.Test.YtcdeojfeebmonaaDoorQKinds
import Derived.Test.YtcdeojfeebmonaaDoorQOpen
namespace Go.Proofs.YtcdeojfeebmonaaDoor.Q
open Go.RowKit Go.Proofs.YtcdeojfeebmonaaDoorW.PrintWords Go.Proofs.YtcdeojfeebmonaaDoorW.PrintLast Go.Proofs.YtcdeojfeebmonaaDoorW.PrintMore
open Go.Proofs.YtcdeojfeebmonaaDoor.Open
def laws_FnExactSegLeq.Pure:Prop:=∀ (a0:Int) (a1:Int) (l2_0:List (List (S82))) (l2_1:List (S68)) (l2_2:List Bool) (l3_0:List (List (S82))) (l3_1:List (S68)) (l3_2:List Bool),(Lit.int .i64 a0).wf=true→(Lit.int .i64 a1).wf=true→FitL (FitL Fit82) l2_0→FitL Fit68 l2_1→FitL (fun _:Bool=>True) l2_2→FitL (FitL Fit82) l3_0→FitL Fit68 l3_1→FitL (fun _:Bool=>True) l3_2→∃ k,laws_FnExactSegLeq.f k a0 a1 l2_0 l2_1 l2_2 l3_0 l3_1 l3_2=some true
end Go.Proofs.YtcdeojfeebmonaaDoor.Q
