/- What reads as data of the types of the laws' arguments is of the printed kinds. No conditions. -/
import Derived.Test.YtmdebfbkehnocaaQx0
import Derived.Test.YtmdebfbkehnocaaQOpen
namespace Go.Proofs.Ytmdebfbkehnocaa.Q
open Go.RowKit Go.Proofs.YtmdebfbkehnocaaW.PrintWords Go.Proofs.YtmdebfbkehnocaaW.PrintLast Go.Proofs.YtmdebfbkehnocaaW.PrintMore
open Go.Proofs.Ytmdebfbkehnocaa.Open
inductive Fit50 : S50 → Prop
  | mk (x : S50) (h0 : (fun x : Int => (Lit.int .i64 x).wf = true) x.f0) (h1 : (fun s : ByteArray => s.size ≤ maxLen) x.f1) (h2 : (fun x : Int => (Lit.int .i64 x).wf = true) x.f2) (h3 : x.f3.length ≤ maxLen) (g3 : ∀ y, y ∈ x.f3 → Fit50 y) : Fit50 x
theorem op50u : ∀ n, Opn Try.prog n 50 (Kd.upto F50 4 [50] n) Fit50
  | 0 => fun H enc w base spare held m cs x hm hx => by
    have : m = 0 := by omega
    subst this
    simp [DataW.trod] at hx
  | n + 1 => Opn.imp (op_struct (n := n) Try.underlying50 (by kernel_rfl) rfl (opF_cons ((op_int Try.underlying3) n) (opF_cons ((op_string Try.underlying9) n) (opF_cons ((op_int Try.underlying3) n) (opF_one (Opn.weak (op_slice Try.underlying48 ((show Try.prog.cellsOf 50 = 4 by kernel_rfl).trans (sz50 n).symm) (op50u n)) (Nat.le_succ n)))))) (fun x : S50 => (x.f0, x.f1, x.f2, x.f3)) (fun y => ⟨y.1, y.2.1, y.2.2.1, y.2.2.2⟩) (fun _ => rfl)) (fun x h => Fit50.mk x (h.1) (h.2.1) (h.2.2.1) (h.2.2.2).1 (h.2.2.2).2)
theorem Fit50.mk_ {x : S50} (h : Fit50 x) : (fun x : Int => (Lit.int .i64 x).wf = true) x.f0 ∧ (fun s : ByteArray => s.size ≤ maxLen) x.f1 ∧ (fun x : Int => (Lit.int .i64 x).wf = true) x.f2 ∧ (FitL Fit50) x.f3 := by
  cases h with
  | mk x h0 h1 h2 h3 g3 => exact ⟨h0, h1, h2, ⟨h3, g3⟩⟩
theorem op50 (n : Nat) : Opn Try.prog n 50 k50 Fit50 := fun H enc w base spare held m cs x hm hx => by
  obtain ⟨y, hy, hf⟩ := op50u n H enc w base spare held m cs x hm hx
  exact ⟨y, ⟨n, hy⟩, hf⟩
def Fit52 (x : S52) : Prop := (fun x : Int => (Lit.int .i64 x).wf = true) x.f0 ∧ (fun x : Int => (Lit.int .i64 x).wf = true) x.f1 ∧ (fun x : Int => (Lit.int .i64 x).wf = true) x.f2 ∧ (fun _ : Bool => True) x.f3 ∧ Fit50 x.f4
theorem op52 (n : Nat) : Opn Try.prog n 52 k52 Fit52 :=
  Opn.weak (Opn.imp (op_struct (n := n) Try.underlying52 (by kernel_rfl) rfl (opF_cons ((op_int Try.underlying3) n) (opF_cons ((op_int Try.underlying3) n) (opF_cons ((op_int Try.underlying3) n) (opF_cons ((op_bool Try.underlying4) n) (opF_one (op50 n)))))) (fun x : S52 => (x.f0, x.f1, x.f2, x.f3, x.f4)) (fun y => ⟨y.1, y.2.1, y.2.2.1, y.2.2.2.1, y.2.2.2.2⟩) (fun _ => rfl)) (fun x h => ⟨h.1, h.2.1, h.2.2.1, h.2.2.2.1, h.2.2.2.2⟩)) (Nat.le_succ n)
theorem Fit52.mk_ {x : S52} (h : Fit52 x) : (fun x : Int => (Lit.int .i64 x).wf = true) x.f0 ∧ (fun x : Int => (Lit.int .i64 x).wf = true) x.f1 ∧ (fun x : Int => (Lit.int .i64 x).wf = true) x.f2 ∧ (fun _ : Bool => True) x.f3 ∧ Fit50 x.f4 := h
def Fit24 (x : S24) : Prop := (fun x : Int => (Lit.int .i64 x).wf = true) x.f0 ∧ (FitL Fit52) x.f1
theorem op24 (n : Nat) : Opn Try.prog n 24 k24 Fit24 :=
  Opn.weak (Opn.imp (op_struct (n := n) Try.underlying24 (by kernel_rfl) rfl (opF_cons ((op_int Try.underlying3) n) (opF_one ((fun n => (op_slice Try.underlying22 (by kernel_rfl) (op52 n)).weak (Nat.le_succ n)) n))) (fun x : S24 => (x.f0, x.f1)) (fun y => ⟨y.1, y.2⟩) (fun _ => rfl)) (fun x h => ⟨h.1, h.2⟩)) (Nat.le_succ n)
theorem Fit24.mk_ {x : S24} (h : Fit24 x) : (fun x : Int => (Lit.int .i64 x).wf = true) x.f0 ∧ (FitL Fit52) x.f1 := h
end Go.Proofs.Ytmdebfbkehnocaa.Q
