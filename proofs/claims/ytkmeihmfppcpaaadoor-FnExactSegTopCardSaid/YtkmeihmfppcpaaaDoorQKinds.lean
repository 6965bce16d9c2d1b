/- What reads as data of the types of the laws' arguments is of the printed kinds. No conditions. -/
import Derived.Test.YtkmeihmfppcpaaaDoorQx0
import Derived.Test.YtkmeihmfppcpaaaDoorQOpen
namespace Go.Proofs.YtkmeihmfppcpaaaDoor.Q
open Go.RowKit Go.Proofs.YtkmeihmfppcpaaaDoorW.PrintWords Go.Proofs.YtkmeihmfppcpaaaDoorW.PrintLast Go.Proofs.YtkmeihmfppcpaaaDoorW.PrintMore
open Go.Proofs.YtkmeihmfppcpaaaDoor.Open
def Fit23 (x : S23) : Prop := (fun x : Int => (Lit.int .i64 x).wf = true) x.f0 ∧ (fun x : Int => (Lit.int .i64 x).wf = true) x.f1
theorem op23 (n : Nat) : Opn Tryd.prog n 23 k23 Fit23 :=
  Opn.weak (Opn.imp (op_struct (n := n) Tryd.underlying23 (by kernel_rfl) rfl (opF_cons ((op_int Tryd.underlying3) n) (opF_one ((op_int Tryd.underlying3) n))) (fun x : S23 => (x.f0, x.f1)) (fun y => ⟨y.1, y.2⟩) (fun _ => rfl)) (fun x h => ⟨h.1, h.2⟩)) (Nat.le_succ n)
theorem Fit23.mk_ {x : S23} (h : Fit23 x) : (fun x : Int => (Lit.int .i64 x).wf = true) x.f0 ∧ (fun x : Int => (Lit.int .i64 x).wf = true) x.f1 := h
def Fit25 (x : S25) : Prop := Fit23 x.f0 ∧ (fun _ : Bool => True) x.f1
theorem op25 (n : Nat) : Opn Tryd.prog n 25 k25 Fit25 :=
  Opn.weak (Opn.imp (op_struct (n := n) Tryd.underlying25 (by kernel_rfl) rfl (opF_cons (op23 n) (opF_one ((op_bool Tryd.underlying4) n))) (fun x : S25 => (x.f0, x.f1)) (fun y => ⟨y.1, y.2⟩) (fun _ => rfl)) (fun x h => ⟨h.1, h.2⟩)) (Nat.le_succ n)
theorem Fit25.mk_ {x : S25} (h : Fit25 x) : Fit23 x.f0 ∧ (fun _ : Bool => True) x.f1 := h
end Go.Proofs.YtkmeihmfppcpaaaDoor.Q
