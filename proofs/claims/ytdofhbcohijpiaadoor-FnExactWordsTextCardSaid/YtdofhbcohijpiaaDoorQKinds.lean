/- What reads as data of the types of the laws' arguments is of the printed kinds. No conditions. -/
import Derived.Test.YtdofhbcohijpiaaDoorQx0
import Derived.Test.YtdofhbcohijpiaaDoorQOpen
namespace Go.Proofs.YtdofhbcohijpiaaDoor.Q
open Go.RowKit Go.Proofs.YtdofhbcohijpiaaDoorW.PrintWords Go.Proofs.YtdofhbcohijpiaaDoorW.PrintLast Go.Proofs.YtdofhbcohijpiaaDoorW.PrintMore
open Go.Proofs.YtdofhbcohijpiaaDoor.Open
def Fit23 (x : S23) : Prop := (fun x : Int => (Lit.int .i64 x).wf = true) x.f0 ∧ (fun x : Int => (Lit.int .i64 x).wf = true) x.f1
theorem op23 (n : Nat) : Opn Tryd.prog n 23 k23 Fit23 :=
  Opn.weak (Opn.imp (op_struct (n := n) Tryd.underlying23 (by kernel_rfl) rfl (opF_cons ((op_int Tryd.underlying3) n) (opF_one ((op_int Tryd.underlying3) n))) (fun x : S23 => (x.f0, x.f1)) (fun y => ⟨y.1, y.2⟩) (fun _ => rfl)) (fun x h => ⟨h.1, h.2⟩)) (Nat.le_succ n)
theorem Fit23.mk_ {x : S23} (h : Fit23 x) : (fun x : Int => (Lit.int .i64 x).wf = true) x.f0 ∧ (fun x : Int => (Lit.int .i64 x).wf = true) x.f1 := h
def Fit29 (x : S29) : Prop := Fit23 x.f0 ∧ (fun _ : Bool => True) x.f1
theorem op29 (n : Nat) : Opn Tryd.prog n 29 k29 Fit29 :=
  Opn.weak (Opn.imp (op_struct (n := n) Tryd.underlying29 (by kernel_rfl) rfl (opF_cons (op23 n) (opF_one ((op_bool Tryd.underlying4) n))) (fun x : S29 => (x.f0, x.f1)) (fun y => ⟨y.1, y.2⟩) (fun _ => rfl)) (fun x h => ⟨h.1, h.2⟩)) (Nat.le_succ n)
theorem Fit29.mk_ {x : S29} (h : Fit29 x) : Fit23 x.f0 ∧ (fun _ : Bool => True) x.f1 := h
def Fit43 (x : S43) : Prop := (fun x : Int => (Lit.int .i64 x).wf = true) x.f0 ∧ (fun s : ByteArray => s.size ≤ maxLen) x.f1 ∧ (fun x : Int => (Lit.int .i64 x).wf = true) x.f2
theorem op43 (n : Nat) : Opn Tryd.prog n 43 k43 Fit43 :=
  Opn.weak (Opn.imp (op_struct (n := n) Tryd.underlying43 (by kernel_rfl) rfl (opF_cons ((op_int Tryd.underlying3) n) (opF_cons ((op_string Tryd.underlying9) n) (opF_one ((op_int Tryd.underlying3) n)))) (fun x : S43 => (x.f0, x.f1, x.f2)) (fun y => ⟨y.1, y.2.1, y.2.2⟩) (fun _ => rfl)) (fun x h => ⟨h.1, h.2.1, h.2.2⟩)) (Nat.le_succ n)
theorem Fit43.mk_ {x : S43} (h : Fit43 x) : (fun x : Int => (Lit.int .i64 x).wf = true) x.f0 ∧ (fun s : ByteArray => s.size ≤ maxLen) x.f1 ∧ (fun x : Int => (Lit.int .i64 x).wf = true) x.f2 := h
def Fit63 (x : S63) : Prop := (fun x : Int => (Lit.int .i64 x).wf = true) x.f0 ∧ (fun x : Int => (Lit.int .i64 x).wf = true) x.f1
theorem op63 (n : Nat) : Opn Tryd.prog n 63 k63 Fit63 :=
  Opn.weak (Opn.imp (op_struct (n := n) Tryd.underlying63 (by kernel_rfl) rfl (opF_cons ((op_int Tryd.underlying3) n) (opF_one ((op_int Tryd.underlying3) n))) (fun x : S63 => (x.f0, x.f1)) (fun y => ⟨y.1, y.2⟩) (fun _ => rfl)) (fun x h => ⟨h.1, h.2⟩)) (Nat.le_succ n)
theorem Fit63.mk_ {x : S63} (h : Fit63 x) : (fun x : Int => (Lit.int .i64 x).wf = true) x.f0 ∧ (fun x : Int => (Lit.int .i64 x).wf = true) x.f1 := h
end Go.Proofs.YtdofhbcohijpiaaDoor.Q
