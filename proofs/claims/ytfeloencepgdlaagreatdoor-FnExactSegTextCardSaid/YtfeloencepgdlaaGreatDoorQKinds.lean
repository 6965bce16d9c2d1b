/- What reads as data of the types of the laws' arguments is of the printed kinds. No conditions. -/
import Derived.Test.YtfeloencepgdlaaGreatDoorQx0
import Derived.Test.YtfeloencepgdlaaGreatDoorQOpen
namespace Go.Proofs.YtfeloencepgdlaaGreatDoor.Q
open Go.RowKit Go.Proofs.YtfeloencepgdlaaGreatDoorW.PrintWords Go.Proofs.YtfeloencepgdlaaGreatDoorW.PrintLast Go.Proofs.YtfeloencepgdlaaGreatDoorW.PrintMore
open Go.Proofs.YtfeloencepgdlaaGreatDoor.Open
def Fit93 (x : S93) : Prop := (fun x : Int => (Lit.int .i64 x).wf = true) x.f0 ∧ (fun x : Int => (Lit.int .i64 x).wf = true) x.f1
theorem op93 (n : Nat) : Opn Tryz.prog n 93 k93 Fit93 :=
  Opn.weak (Opn.imp (op_struct (n := n) Tryz.underlying93 (by kernel_rfl) rfl (opF_cons ((op_int Tryz.underlying3) n) (opF_one ((op_int Tryz.underlying3) n))) (fun x : S93 => (x.f0, x.f1)) (fun y => ⟨y.1, y.2⟩) (fun _ => rfl)) (fun x h => ⟨h.1, h.2⟩)) (Nat.le_succ n)
theorem Fit93.mk_ {x : S93} (h : Fit93 x) : (fun x : Int => (Lit.int .i64 x).wf = true) x.f0 ∧ (fun x : Int => (Lit.int .i64 x).wf = true) x.f1 := h
def Fit72 (x : S72) : Prop := (fun x : Int => (Lit.int .i64 x).wf = true) x.f0 ∧ (fun x : Int => (Lit.int .i64 x).wf = true) x.f1
theorem op72 (n : Nat) : Opn Tryz.prog n 72 k72 Fit72 :=
  Opn.weak (Opn.imp (op_struct (n := n) Tryz.underlying72 (by kernel_rfl) rfl (opF_cons ((op_int Tryz.underlying3) n) (opF_one ((op_int Tryz.underlying3) n))) (fun x : S72 => (x.f0, x.f1)) (fun y => ⟨y.1, y.2⟩) (fun _ => rfl)) (fun x h => ⟨h.1, h.2⟩)) (Nat.le_succ n)
theorem Fit72.mk_ {x : S72} (h : Fit72 x) : (fun x : Int => (Lit.int .i64 x).wf = true) x.f0 ∧ (fun x : Int => (Lit.int .i64 x).wf = true) x.f1 := h
def Fit74 (x : S74) : Prop := Fit72 x.f0 ∧ (fun _ : Bool => True) x.f1
theorem op74 (n : Nat) : Opn Tryz.prog n 74 k74 Fit74 :=
  Opn.weak (Opn.imp (op_struct (n := n) Tryz.underlying74 (by kernel_rfl) rfl (opF_cons (op72 n) (opF_one ((op_bool Tryz.underlying4) n))) (fun x : S74 => (x.f0, x.f1)) (fun y => ⟨y.1, y.2⟩) (fun _ => rfl)) (fun x h => ⟨h.1, h.2⟩)) (Nat.le_succ n)
theorem Fit74.mk_ {x : S74} (h : Fit74 x) : Fit72 x.f0 ∧ (fun _ : Bool => True) x.f1 := h
def Fit26 (x : S26) : Prop := (FitL (FitL Fit93)) x.f0 ∧ (FitL Fit74) x.f1 ∧ (FitL (fun _ : Bool => True)) x.f2
theorem op26 (n : Nat) : Opn Tryz.prog n 26 k26 Fit26 :=
  Opn.weak (Opn.imp (op_struct (n := n) Tryz.underlying26 (by kernel_rfl) rfl (opF_cons ((fun n => (op_slice Tryz.underlying22 (by kernel_rfl) ((fun n => (op_slice Tryz.underlying54 (by kernel_rfl) (op93 n)).weak (Nat.le_succ n)) n)).weak (Nat.le_succ n)) n) (opF_cons ((fun n => (op_slice Tryz.underlying23 (by kernel_rfl) (op74 n)).weak (Nat.le_succ n)) n) (opF_one ((fun n => (op_slice Tryz.underlying24 (by kernel_rfl) ((op_bool Tryz.underlying4) n)).weak (Nat.le_succ n)) n)))) (fun x : S26 => (x.f0, x.f1, x.f2)) (fun y => ⟨y.1, y.2.1, y.2.2⟩) (fun _ => rfl)) (fun x h => ⟨h.1, h.2.1, h.2.2⟩)) (Nat.le_succ n)
theorem Fit26.mk_ {x : S26} (h : Fit26 x) : (FitL (FitL Fit93)) x.f0 ∧ (FitL Fit74) x.f1 ∧ (FitL (fun _ : Bool => True)) x.f2 := h
end Go.Proofs.YtfeloencepgdlaaGreatDoor.Q
