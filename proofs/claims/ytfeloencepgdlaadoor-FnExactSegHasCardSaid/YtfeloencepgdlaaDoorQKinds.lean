/- What reads as data of the types of the laws' arguments is of the printed kinds. No conditions. -/
import Derived.Test.YtfeloencepgdlaaDoorQx0
import Derived.Test.YtfeloencepgdlaaDoorQOpen
namespace Go.Proofs.YtfeloencepgdlaaDoor.Q
open Go.RowKit Go.Proofs.YtfeloencepgdlaaDoorW.PrintWords Go.Proofs.YtfeloencepgdlaaDoorW.PrintLast Go.Proofs.YtfeloencepgdlaaDoorW.PrintMore
open Go.Proofs.YtfeloencepgdlaaDoor.Open
def Fit110 (x : S110) : Prop := (fun x : Int => (Lit.int .i64 x).wf = true) x.f0 ∧ (fun x : Int => (Lit.int .i64 x).wf = true) x.f1
theorem op110 (n : Nat) : Opn Tryd.prog n 110 k110 Fit110 :=
  Opn.weak (Opn.imp (op_struct (n := n) Tryd.underlying110 (by kernel_rfl) rfl (opF_cons ((op_int Tryd.underlying3) n) (opF_one ((op_int Tryd.underlying3) n))) (fun x : S110 => (x.f0, x.f1)) (fun y => ⟨y.1, y.2⟩) (fun _ => rfl)) (fun x h => ⟨h.1, h.2⟩)) (Nat.le_succ n)
theorem Fit110.mk_ {x : S110} (h : Fit110 x) : (fun x : Int => (Lit.int .i64 x).wf = true) x.f0 ∧ (fun x : Int => (Lit.int .i64 x).wf = true) x.f1 := h
def Fit93 (x : S93) : Prop := (fun x : Int => (Lit.int .i64 x).wf = true) x.f0 ∧ (fun x : Int => (Lit.int .i64 x).wf = true) x.f1
theorem op93 (n : Nat) : Opn Tryd.prog n 93 k93 Fit93 :=
  Opn.weak (Opn.imp (op_struct (n := n) Tryd.underlying93 (by kernel_rfl) rfl (opF_cons ((op_int Tryd.underlying3) n) (opF_one ((op_int Tryd.underlying3) n))) (fun x : S93 => (x.f0, x.f1)) (fun y => ⟨y.1, y.2⟩) (fun _ => rfl)) (fun x h => ⟨h.1, h.2⟩)) (Nat.le_succ n)
theorem Fit93.mk_ {x : S93} (h : Fit93 x) : (fun x : Int => (Lit.int .i64 x).wf = true) x.f0 ∧ (fun x : Int => (Lit.int .i64 x).wf = true) x.f1 := h
def Fit95 (x : S95) : Prop := Fit93 x.f0 ∧ (fun _ : Bool => True) x.f1
theorem op95 (n : Nat) : Opn Tryd.prog n 95 k95 Fit95 :=
  Opn.weak (Opn.imp (op_struct (n := n) Tryd.underlying95 (by kernel_rfl) rfl (opF_cons (op93 n) (opF_one ((op_bool Tryd.underlying4) n))) (fun x : S95 => (x.f0, x.f1)) (fun y => ⟨y.1, y.2⟩) (fun _ => rfl)) (fun x h => ⟨h.1, h.2⟩)) (Nat.le_succ n)
theorem Fit95.mk_ {x : S95} (h : Fit95 x) : Fit93 x.f0 ∧ (fun _ : Bool => True) x.f1 := h
def Fit26 (x : S26) : Prop := (FitL (FitL Fit110)) x.f0 ∧ (FitL Fit95) x.f1 ∧ (FitL (fun _ : Bool => True)) x.f2
theorem op26 (n : Nat) : Opn Tryd.prog n 26 k26 Fit26 :=
  Opn.weak (Opn.imp (op_struct (n := n) Tryd.underlying26 (by kernel_rfl) rfl (opF_cons ((fun n => (op_slice Tryd.underlying22 (by kernel_rfl) ((fun n => (op_slice Tryd.underlying88 (by kernel_rfl) (op110 n)).weak (Nat.le_succ n)) n)).weak (Nat.le_succ n)) n) (opF_cons ((fun n => (op_slice Tryd.underlying23 (by kernel_rfl) (op95 n)).weak (Nat.le_succ n)) n) (opF_one ((fun n => (op_slice Tryd.underlying24 (by kernel_rfl) ((op_bool Tryd.underlying4) n)).weak (Nat.le_succ n)) n)))) (fun x : S26 => (x.f0, x.f1, x.f2)) (fun y => ⟨y.1, y.2.1, y.2.2⟩) (fun _ => rfl)) (fun x h => ⟨h.1, h.2.1, h.2.2⟩)) (Nat.le_succ n)
theorem Fit26.mk_ {x : S26} (h : Fit26 x) : (FitL (FitL Fit110)) x.f0 ∧ (FitL Fit95) x.f1 ∧ (FitL (fun _ : Bool => True)) x.f2 := h
def Fit79 (x : S79) : Prop := (fun _ : Bool => True) x.f0 ∧ (fun x : Int => (Lit.int .i64 x).wf = true) x.f1
theorem op79 (n : Nat) : Opn Tryd.prog n 79 k79 Fit79 :=
  Opn.weak (Opn.imp (op_struct (n := n) Tryd.underlying79 (by kernel_rfl) rfl (opF_cons ((op_bool Tryd.underlying4) n) (opF_one ((op_int Tryd.underlying3) n))) (fun x : S79 => (x.f0, x.f1)) (fun y => ⟨y.1, y.2⟩) (fun _ => rfl)) (fun x h => ⟨h.1, h.2⟩)) (Nat.le_succ n)
theorem Fit79.mk_ {x : S79} (h : Fit79 x) : (fun _ : Bool => True) x.f0 ∧ (fun x : Int => (Lit.int .i64 x).wf = true) x.f1 := h
end Go.Proofs.YtfeloencepgdlaaDoor.Q
