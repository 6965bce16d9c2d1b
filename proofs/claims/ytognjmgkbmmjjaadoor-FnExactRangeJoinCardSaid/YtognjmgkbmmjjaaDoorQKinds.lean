/- What reads as data of the types of the laws' arguments is of the printed kinds. No conditions. -/
import Derived.Test.YtognjmgkbmmjjaaDoorQx0
import Derived.Test.YtognjmgkbmmjjaaDoorQOpen
namespace Go.Proofs.YtognjmgkbmmjjaaDoor.Q
open Go.RowKit Go.Proofs.YtognjmgkbmmjjaaDoorW.PrintWords Go.Proofs.YtognjmgkbmmjjaaDoorW.PrintLast Go.Proofs.YtognjmgkbmmjjaaDoorW.PrintMore
open Go.Proofs.YtognjmgkbmmjjaaDoor.Open
def Fit23 (x : S23) : Prop := (fun x : Int => (Lit.int .i64 x).wf = true) x.f0 ∧ (fun x : Int => (Lit.int .i64 x).wf = true) x.f1
theorem op23 (n : Nat) : Opn Tryd.prog n 23 k23 Fit23 :=
  Opn.weak (Opn.imp (op_struct (n := n) Tryd.underlying23 (by kernel_rfl) rfl (opF_cons ((op_int Tryd.underlying3) n) (opF_one ((op_int Tryd.underlying3) n))) (fun x : S23 => (x.f0, x.f1)) (fun y => ⟨y.1, y.2⟩) (fun _ => rfl)) (fun x h => ⟨h.1, h.2⟩)) (Nat.le_succ n)
theorem Fit23.mk_ {x : S23} (h : Fit23 x) : (fun x : Int => (Lit.int .i64 x).wf = true) x.f0 ∧ (fun x : Int => (Lit.int .i64 x).wf = true) x.f1 := h
def Fit31 (x : S31) : Prop := Fit23 x.f0 ∧ (fun _ : Bool => True) x.f1
theorem op31 (n : Nat) : Opn Tryd.prog n 31 k31 Fit31 :=
  Opn.weak (Opn.imp (op_struct (n := n) Tryd.underlying31 (by kernel_rfl) rfl (opF_cons (op23 n) (opF_one ((op_bool Tryd.underlying4) n))) (fun x : S31 => (x.f0, x.f1)) (fun y => ⟨y.1, y.2⟩) (fun _ => rfl)) (fun x h => ⟨h.1, h.2⟩)) (Nat.le_succ n)
theorem Fit31.mk_ {x : S31} (h : Fit31 x) : Fit23 x.f0 ∧ (fun _ : Bool => True) x.f1 := h
def Fit55 (x : S55) : Prop := (fun _ : Bool => True) x.f0 ∧ (fun x : Int => (Lit.int .i64 x).wf = true) x.f1
theorem op55 (n : Nat) : Opn Tryd.prog n 55 k55 Fit55 :=
  Opn.weak (Opn.imp (op_struct (n := n) Tryd.underlying55 (by kernel_rfl) rfl (opF_cons ((op_bool Tryd.underlying4) n) (opF_one ((op_int Tryd.underlying3) n))) (fun x : S55 => (x.f0, x.f1)) (fun y => ⟨y.1, y.2⟩) (fun _ => rfl)) (fun x h => ⟨h.1, h.2⟩)) (Nat.le_succ n)
theorem Fit55.mk_ {x : S55} (h : Fit55 x) : (fun _ : Bool => True) x.f0 ∧ (fun x : Int => (Lit.int .i64 x).wf = true) x.f1 := h
end Go.Proofs.YtognjmgkbmmjjaaDoor.Q
