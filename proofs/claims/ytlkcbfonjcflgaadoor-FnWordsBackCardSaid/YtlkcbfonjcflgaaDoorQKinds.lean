/- What reads as data of the types of the laws' arguments is of the printed kinds. No conditions. -/
import Derived.Test.YtlkcbfonjcflgaaDoorQx0
import Derived.Test.YtlkcbfonjcflgaaDoorQOpen
namespace Go.Proofs.YtlkcbfonjcflgaaDoor.Q
open Go.RowKit Go.Proofs.YtlkcbfonjcflgaaDoorW.PrintWords Go.Proofs.YtlkcbfonjcflgaaDoorW.PrintLast Go.Proofs.YtlkcbfonjcflgaaDoorW.PrintMore
open Go.Proofs.YtlkcbfonjcflgaaDoor.Open
def Fit34 (x : S34) : Prop := (fun x : Int => (Lit.int .i64 x).wf = true) x.f0 ∧ (FitL (fun x : Int => (Lit.int .i64 x).wf = true)) x.f1
theorem op34 (n : Nat) : Opn Tryd.prog n 34 k34 Fit34 :=
  Opn.weak (Opn.imp (op_struct (n := n) Tryd.underlying34 (by kernel_rfl) rfl (opF_cons ((op_int Tryd.underlying3) n) (opF_one ((fun n => (op_slice Tryd.underlying32 (by kernel_rfl) ((op_int Tryd.underlying3) n)).weak (Nat.le_succ n)) n))) (fun x : S34 => (x.f0, x.f1)) (fun y => ⟨y.1, y.2⟩) (fun _ => rfl)) (fun x h => ⟨h.1, h.2⟩)) (Nat.le_succ n)
theorem Fit34.mk_ {x : S34} (h : Fit34 x) : (fun x : Int => (Lit.int .i64 x).wf = true) x.f0 ∧ (FitL (fun x : Int => (Lit.int .i64 x).wf = true)) x.f1 := h
end Go.Proofs.YtlkcbfonjcflgaaDoor.Q
