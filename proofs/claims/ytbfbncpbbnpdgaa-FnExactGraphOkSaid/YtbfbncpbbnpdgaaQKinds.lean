/- What reads as data of the types of the laws' arguments is of the printed kinds. No conditions. -/
import Derived.Test.YtbfbncpbbnpdgaaQx0
import Derived.Test.YtbfbncpbbnpdgaaQOpen
namespace Go.Proofs.Ytbfbncpbbnpdgaa.Q
open Go.RowKit Go.Proofs.YtbfbncpbbnpdgaaW.PrintWords Go.Proofs.YtbfbncpbbnpdgaaW.PrintLast Go.Proofs.YtbfbncpbbnpdgaaW.PrintMore
open Go.Proofs.Ytbfbncpbbnpdgaa.Open
inductive Fit59 : S59 → Prop
  | mk (x : S59) (h0 : (fun x : Int => (Lit.int .i64 x).wf = true) x.f0) (h1 : (fun s : ByteArray => s.size ≤ maxLen) x.f1) (h2 : (fun x : Int => (Lit.int .i64 x).wf = true) x.f2) (h3 : x.f3.length ≤ maxLen) (g3 : ∀ y, y ∈ x.f3 → Fit59 y) : Fit59 x
theorem op59u : ∀ n, Opn Try.prog n 59 (Kd.upto F59 4 [59] n) Fit59
  | 0 => fun H enc w base spare held m cs x hm hx => by
    have : m = 0 := by omega
    subst this
    simp [DataW.trod] at hx
  | n + 1 => Opn.imp (op_struct (n := n) Try.underlying59 (by kernel_rfl) rfl (opF_cons ((op_int Try.underlying3) n) (opF_cons ((op_string Try.underlying9) n) (opF_cons ((op_int Try.underlying3) n) (opF_one (Opn.weak (op_slice Try.underlying57 ((show Try.prog.cellsOf 59 = 4 by kernel_rfl).trans (sz59 n).symm) (op59u n)) (Nat.le_succ n)))))) (fun x : S59 => (x.f0, x.f1, x.f2, x.f3)) (fun y => ⟨y.1, y.2.1, y.2.2.1, y.2.2.2⟩) (fun _ => rfl)) (fun x h => Fit59.mk x (h.1) (h.2.1) (h.2.2.1) (h.2.2.2).1 (h.2.2.2).2)
theorem Fit59.mk_ {x : S59} (h : Fit59 x) : (fun x : Int => (Lit.int .i64 x).wf = true) x.f0 ∧ (fun s : ByteArray => s.size ≤ maxLen) x.f1 ∧ (fun x : Int => (Lit.int .i64 x).wf = true) x.f2 ∧ (FitL Fit59) x.f3 := by
  cases h with
  | mk x h0 h1 h2 h3 g3 => exact ⟨h0, h1, h2, ⟨h3, g3⟩⟩
theorem op59 (n : Nat) : Opn Try.prog n 59 k59 Fit59 := fun H enc w base spare held m cs x hm hx => by
  obtain ⟨y, hy, hf⟩ := op59u n H enc w base spare held m cs x hm hx
  exact ⟨y, ⟨n, hy⟩, hf⟩
def Fit61 (x : S61) : Prop := (fun x : Int => (Lit.int .i64 x).wf = true) x.f0 ∧ (fun x : Int => (Lit.int .i64 x).wf = true) x.f1 ∧ (fun x : Int => (Lit.int .i64 x).wf = true) x.f2 ∧ (fun _ : Bool => True) x.f3 ∧ Fit59 x.f4
theorem op61 (n : Nat) : Opn Try.prog n 61 k61 Fit61 :=
  Opn.weak (Opn.imp (op_struct (n := n) Try.underlying61 (by kernel_rfl) rfl (opF_cons ((op_int Try.underlying3) n) (opF_cons ((op_int Try.underlying3) n) (opF_cons ((op_int Try.underlying3) n) (opF_cons ((op_bool Try.underlying4) n) (opF_one (op59 n)))))) (fun x : S61 => (x.f0, x.f1, x.f2, x.f3, x.f4)) (fun y => ⟨y.1, y.2.1, y.2.2.1, y.2.2.2.1, y.2.2.2.2⟩) (fun _ => rfl)) (fun x h => ⟨h.1, h.2.1, h.2.2.1, h.2.2.2.1, h.2.2.2.2⟩)) (Nat.le_succ n)
theorem Fit61.mk_ {x : S61} (h : Fit61 x) : (fun x : Int => (Lit.int .i64 x).wf = true) x.f0 ∧ (fun x : Int => (Lit.int .i64 x).wf = true) x.f1 ∧ (fun x : Int => (Lit.int .i64 x).wf = true) x.f2 ∧ (fun _ : Bool => True) x.f3 ∧ Fit59 x.f4 := h
def Fit24 (x : S24) : Prop := (fun x : Int => (Lit.int .i64 x).wf = true) x.f0 ∧ (FitL Fit61) x.f1
theorem op24 (n : Nat) : Opn Try.prog n 24 k24 Fit24 :=
  Opn.weak (Opn.imp (op_struct (n := n) Try.underlying24 (by kernel_rfl) rfl (opF_cons ((op_int Try.underlying3) n) (opF_one ((fun n => (op_slice Try.underlying22 (by kernel_rfl) (op61 n)).weak (Nat.le_succ n)) n))) (fun x : S24 => (x.f0, x.f1)) (fun y => ⟨y.1, y.2⟩) (fun _ => rfl)) (fun x h => ⟨h.1, h.2⟩)) (Nat.le_succ n)
theorem Fit24.mk_ {x : S24} (h : Fit24 x) : (fun x : Int => (Lit.int .i64 x).wf = true) x.f0 ∧ (FitL Fit61) x.f1 := h
end Go.Proofs.Ytbfbncpbbnpdgaa.Q
