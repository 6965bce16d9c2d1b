/- What reads as data of the types of the laws' arguments is of the printed kinds. No conditions. -/
import Derived.Test.YtdmdalapckcobaaDoorQx0
import Derived.Test.YtdmdalapckcobaaDoorQOpen
namespace Go.Proofs.YtdmdalapckcobaaDoor.Q
open Go.RowKit Go.Proofs.YtdmdalapckcobaaDoorW.PrintWords Go.Proofs.YtdmdalapckcobaaDoorW.PrintLast Go.Proofs.YtdmdalapckcobaaDoorW.PrintMore
open Go.Proofs.YtdmdalapckcobaaDoor.Open
def Fit65 (x : S65) : Prop := (fun x : Int => (Lit.int .i64 x).wf = true) x.f0 ∧ (fun x : Int => (Lit.int .i64 x).wf = true) x.f1
theorem op65 (n : Nat) : Opn Tryd.prog n 65 k65 Fit65 :=
  Opn.weak (Opn.imp (op_struct (n := n) Tryd.underlying65 (by kernel_rfl) rfl (opF_cons ((op_int Tryd.underlying3) n) (opF_one ((op_int Tryd.underlying3) n))) (fun x : S65 => (x.f0, x.f1)) (fun y => ⟨y.1, y.2⟩) (fun _ => rfl)) (fun x h => ⟨h.1, h.2⟩)) (Nat.le_succ n)
theorem Fit65.mk_ {x : S65} (h : Fit65 x) : (fun x : Int => (Lit.int .i64 x).wf = true) x.f0 ∧ (fun x : Int => (Lit.int .i64 x).wf = true) x.f1 := h
def Fit109 (x : S109) : Prop := (fun x : Int => (Lit.int .i64 x).wf = true) x.f0 ∧ (fun x : Int => (Lit.int .i64 x).wf = true) x.f1
theorem op109 (n : Nat) : Opn Tryd.prog n 109 k109 Fit109 :=
  Opn.weak (Opn.imp (op_struct (n := n) Tryd.underlying109 (by kernel_rfl) rfl (opF_cons ((op_int Tryd.underlying3) n) (opF_one ((op_int Tryd.underlying3) n))) (fun x : S109 => (x.f0, x.f1)) (fun y => ⟨y.1, y.2⟩) (fun _ => rfl)) (fun x h => ⟨h.1, h.2⟩)) (Nat.le_succ n)
theorem Fit109.mk_ {x : S109} (h : Fit109 x) : (fun x : Int => (Lit.int .i64 x).wf = true) x.f0 ∧ (fun x : Int => (Lit.int .i64 x).wf = true) x.f1 := h
def Fit111 (x : S111) : Prop := Fit109 x.f0 ∧ (fun _ : Bool => True) x.f1
theorem op111 (n : Nat) : Opn Tryd.prog n 111 k111 Fit111 :=
  Opn.weak (Opn.imp (op_struct (n := n) Tryd.underlying111 (by kernel_rfl) rfl (opF_cons (op109 n) (opF_one ((op_bool Tryd.underlying4) n))) (fun x : S111 => (x.f0, x.f1)) (fun y => ⟨y.1, y.2⟩) (fun _ => rfl)) (fun x h => ⟨h.1, h.2⟩)) (Nat.le_succ n)
theorem Fit111.mk_ {x : S111} (h : Fit111 x) : Fit109 x.f0 ∧ (fun _ : Bool => True) x.f1 := h
def Fit26 (x : S26) : Prop := (FitL (FitL Fit65)) x.f0 ∧ (FitL Fit111) x.f1 ∧ (FitL (fun _ : Bool => True)) x.f2
theorem op26 (n : Nat) : Opn Tryd.prog n 26 k26 Fit26 :=
  Opn.weak (Opn.imp (op_struct (n := n) Tryd.underlying26 (by kernel_rfl) rfl (opF_cons ((fun n => (op_slice Tryd.underlying22 (by kernel_rfl) ((fun n => (op_slice Tryd.underlying27 (by kernel_rfl) (op65 n)).weak (Nat.le_succ n)) n)).weak (Nat.le_succ n)) n) (opF_cons ((fun n => (op_slice Tryd.underlying23 (by kernel_rfl) (op111 n)).weak (Nat.le_succ n)) n) (opF_one ((fun n => (op_slice Tryd.underlying24 (by kernel_rfl) ((op_bool Tryd.underlying4) n)).weak (Nat.le_succ n)) n)))) (fun x : S26 => (x.f0, x.f1, x.f2)) (fun y => ⟨y.1, y.2.1, y.2.2⟩) (fun _ => rfl)) (fun x h => ⟨h.1, h.2.1, h.2.2⟩)) (Nat.le_succ n)
theorem Fit26.mk_ {x : S26} (h : Fit26 x) : (FitL (FitL Fit65)) x.f0 ∧ (FitL Fit111) x.f1 ∧ (FitL (fun _ : Bool => True)) x.f2 := h
end Go.Proofs.YtdmdalapckcobaaDoor.Q
