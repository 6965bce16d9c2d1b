/- What reads as data of the types of the laws' arguments is of the printed kinds. No conditions. -/
import Derived.Test.YtgacociihealaaaQx0
import Derived.Test.YtgacociihealaaaQOpen
namespace Go.Proofs.Ytgacociihealaaa.Q
open Go.RowKit Go.Proofs.YtgacociihealaaaW.PrintWords Go.Proofs.YtgacociihealaaaW.PrintLast Go.Proofs.YtgacociihealaaaW.PrintMore
open Go.Proofs.Ytgacociihealaaa.Open
def Fit35 (x : S35) : Prop := (fun x : Int => (Lit.int .i64 x).wf = true) x.f0 ∧ (FitL (fun x : Int => (Lit.int .i64 x).wf = true)) x.f1
theorem op35 (n : Nat) : Opn Try.prog n 35 k35 Fit35 :=
  Opn.weak (Opn.imp (op_struct (n := n) Try.underlying35 (by kernel_rfl) rfl (opF_cons ((op_int Try.underlying3) n) (opF_one ((fun n => (op_slice Try.underlying33 (by kernel_rfl) ((op_int Try.underlying3) n)).weak (Nat.le_succ n)) n))) (fun x : S35 => (x.f0, x.f1)) (fun y => ⟨y.1, y.2⟩) (fun _ => rfl)) (fun x h => ⟨h.1, h.2⟩)) (Nat.le_succ n)
theorem Fit35.mk_ {x : S35} (h : Fit35 x) : (fun x : Int => (Lit.int .i64 x).wf = true) x.f0 ∧ (FitL (fun x : Int => (Lit.int .i64 x).wf = true)) x.f1 := h
end Go.Proofs.Ytgacociihealaaa.Q
