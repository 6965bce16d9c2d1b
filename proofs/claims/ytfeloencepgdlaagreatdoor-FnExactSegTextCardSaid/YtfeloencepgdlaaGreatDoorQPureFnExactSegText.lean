/- What is left of the law FnExactSegText, stated over numbers and lists alone: no proof in here. -/
import Derived.Test.YtfeloencepgdlaaGreatDoorQXFnExactSegText
import Derived.Test.YtfeloencepgdlaaGreatDoorQKinds
import Derived.Test.YtfeloencepgdlaaGreatDoorQOpen
namespace Go.Proofs.YtfeloencepgdlaaGreatDoor.Q
open Go.RowKit Go.Proofs.YtfeloencepgdlaaGreatDoorW.PrintWords Go.Proofs.YtfeloencepgdlaaGreatDoorW.PrintLast Go.Proofs.YtfeloencepgdlaaGreatDoorW.PrintMore
open Go.Proofs.YtfeloencepgdlaaGreatDoor.Open
/-- What is left of the law FnExactSegText: over numbers and lists alone. -/
def laws_FnExactSegText.Pure : Prop := ∀ (a0 : Int) (a1 : Int) (l2_0 : List (List (S93))) (l2_1 : List (S74)) (l2_2 : List Bool) (l3 : List ByteArray), (Lit.int .i64 a0).wf = true → (Lit.int .i64 a1).wf = true → FitL (FitL Fit93) l2_0 → FitL Fit74 l2_1 → FitL (fun _ : Bool => True) l2_2 → FitL (fun s : ByteArray => s.size ≤ maxLen) l3 → ∃ k, laws_FnExactSegText.f k a0 a1 l2_0 l2_1 l2_2 l3 = some true
end Go.Proofs.YtfeloencepgdlaaGreatDoor.Q
