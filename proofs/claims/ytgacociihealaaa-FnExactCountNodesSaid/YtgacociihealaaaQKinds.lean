/- What reads as data of the types of the laws' arguments is of the printed kinds. No conditions. -/
import Derived.Test.YtgacociihealaaaQx0
import Derived.Test.YtgacociihealaaaQOpen
namespace Go.Proofs.Ytgacociihealaaa.Q
open Go.RowKit Go.Proofs.YtgacociihealaaaW.PrintWords Go.Proofs.YtgacociihealaaaW.PrintLast Go.Proofs.YtgacociihealaaaW.PrintMore
open Go.Proofs.Ytgacociihealaaa.Open
inductive Fit24 : S24 → Prop
  | mk (x : S24) (h0 : (fun x : Int => (Lit.int .i64 x).wf = true) x.f0) (h1 : (fun s : ByteArray => s.size ≤ maxLen) x.f1) (h2 : (fun x : Int => (Lit.int .i64 x).wf = true) x.f2) (h3 : x.f3.length ≤ maxLen) (g3 : ∀ y, y ∈ x.f3 → Fit24 y) : Fit24 x
theorem op24u : ∀ n, Opn Try.prog n 24 (Kd.upto F24 4 [24] n) Fit24
  | 0 => fun H enc w base spare held m cs x hm hx => by
    have : m = 0 := by omega
    subst this
    simp [DataW.trod] at hx
  | n + 1 => Opn.imp (op_struct (n := n) Try.underlying24 (by kernel_rfl) rfl (opF_cons ((op_int Try.underlying3) n) (opF_cons ((op_string Try.underlying9) n) (opF_cons ((op_int Try.underlying3) n) (opF_one (Opn.weak (op_slice Try.underlying22 ((show Try.prog.cellsOf 24 = 4 by kernel_rfl).trans (sz24 n).symm) (op24u n)) (Nat.le_succ n)))))) (fun x : S24 => (x.f0, x.f1, x.f2, x.f3)) (fun y => ⟨y.1, y.2.1, y.2.2.1, y.2.2.2⟩) (fun _ => rfl)) (fun x h => Fit24.mk x (h.1) (h.2.1) (h.2.2.1) (h.2.2.2).1 (h.2.2.2).2)
theorem Fit24.mk_ {x : S24} (h : Fit24 x) : (fun x : Int => (Lit.int .i64 x).wf = true) x.f0 ∧ (fun s : ByteArray => s.size ≤ maxLen) x.f1 ∧ (fun x : Int => (Lit.int .i64 x).wf = true) x.f2 ∧ (FitL Fit24) x.f3 := by
  cases h with
  | mk x h0 h1 h2 h3 g3 => exact ⟨h0, h1, h2, ⟨h3, g3⟩⟩
theorem op24 (n : Nat) : Opn Try.prog n 24 k24 Fit24 := fun H enc w base spare held m cs x hm hx => by
  obtain ⟨y, hy, hf⟩ := op24u n H enc w base spare held m cs x hm hx
  exact ⟨y, ⟨n, hy⟩, hf⟩
def Fit35 (x : S35) : Prop := (fun x : Int => (Lit.int .i64 x).wf = true) x.f0 ∧ (FitL (fun x : Int => (Lit.int .i64 x).wf = true)) x.f1
theorem op35 (n : Nat) : Opn Try.prog n 35 k35 Fit35 :=
  Opn.weak (Opn.imp (op_struct (n := n) Try.underlying35 (by kernel_rfl) rfl (opF_cons ((op_int Try.underlying3) n) (opF_one ((fun n => (op_slice Try.underlying33 (by kernel_rfl) ((op_int Try.underlying3) n)).weak (Nat.le_succ n)) n))) (fun x : S35 => (x.f0, x.f1)) (fun y => ⟨y.1, y.2⟩) (fun _ => rfl)) (fun x h => ⟨h.1, h.2⟩)) (Nat.le_succ n)
theorem Fit35.mk_ {x : S35} (h : Fit35 x) : (fun x : Int => (Lit.int .i64 x).wf = true) x.f0 ∧ (FitL (fun x : Int => (Lit.int .i64 x).wf = true)) x.f1 := h
end Go.Proofs.Ytgacociihealaaa.Q
