/- What reads as data of the types of the laws' arguments is of the printed kinds. No conditions. -/
import Derived.Test.YtkmeihmfppcpaabQx0
import Derived.Test.YtkmeihmfppcpaabQOpen
namespace Go.Proofs.Ytkmeihmfppcpaab.Q
open Go.RowKit Go.Proofs.YtkmeihmfppcpaabW.PrintWords Go.Proofs.YtkmeihmfppcpaabW.PrintLast Go.Proofs.YtkmeihmfppcpaabW.PrintMore
open Go.Proofs.Ytkmeihmfppcpaab.Open
inductive Fit46 : S46 → Prop
  | mk (x : S46) (h0 : (fun x : Int => (Lit.int .i64 x).wf = true) x.f0) (h1 : (fun s : ByteArray => s.size ≤ maxLen) x.f1) (h2 : (fun x : Int => (Lit.int .i64 x).wf = true) x.f2) (h3 : x.f3.length ≤ maxLen) (g3 : ∀ y, y ∈ x.f3 → Fit46 y) : Fit46 x
theorem op46u : ∀ n, Opn Try.prog n 46 (Kd.upto F46 4 [46] n) Fit46
  | 0 => fun H enc w base spare held m cs x hm hx => by
    have : m = 0 := by omega
    subst this
    simp [DataW.trod] at hx
  | n + 1 => Opn.imp (op_struct (n := n) Try.underlying46 (by kernel_rfl) rfl (opF_cons ((op_int Try.underlying3) n) (opF_cons ((op_string Try.underlying9) n) (opF_cons ((op_int Try.underlying3) n) (opF_one (Opn.weak (op_slice Try.underlying44 ((show Try.prog.cellsOf 46 = 4 by kernel_rfl).trans (sz46 n).symm) (op46u n)) (Nat.le_succ n)))))) (fun x : S46 => (x.f0, x.f1, x.f2, x.f3)) (fun y => ⟨y.1, y.2.1, y.2.2.1, y.2.2.2⟩) (fun _ => rfl)) (fun x h => Fit46.mk x (h.1) (h.2.1) (h.2.2.1) (h.2.2.2).1 (h.2.2.2).2)
theorem Fit46.mk_ {x : S46} (h : Fit46 x) : (fun x : Int => (Lit.int .i64 x).wf = true) x.f0 ∧ (fun s : ByteArray => s.size ≤ maxLen) x.f1 ∧ (fun x : Int => (Lit.int .i64 x).wf = true) x.f2 ∧ (FitL Fit46) x.f3 := by
  cases h with
  | mk x h0 h1 h2 h3 g3 => exact ⟨h0, h1, h2, ⟨h3, g3⟩⟩
theorem op46 (n : Nat) : Opn Try.prog n 46 k46 Fit46 := fun H enc w base spare held m cs x hm hx => by
  obtain ⟨y, hy, hf⟩ := op46u n H enc w base spare held m cs x hm hx
  exact ⟨y, ⟨n, hy⟩, hf⟩
def Fit48 (x : S48) : Prop := (fun x : Int => (Lit.int .i64 x).wf = true) x.f0 ∧ (fun x : Int => (Lit.int .i64 x).wf = true) x.f1 ∧ (fun x : Int => (Lit.int .i64 x).wf = true) x.f2 ∧ (fun _ : Bool => True) x.f3 ∧ Fit46 x.f4
theorem op48 (n : Nat) : Opn Try.prog n 48 k48 Fit48 :=
  Opn.weak (Opn.imp (op_struct (n := n) Try.underlying48 (by kernel_rfl) rfl (opF_cons ((op_int Try.underlying3) n) (opF_cons ((op_int Try.underlying3) n) (opF_cons ((op_int Try.underlying3) n) (opF_cons ((op_bool Try.underlying4) n) (opF_one (op46 n)))))) (fun x : S48 => (x.f0, x.f1, x.f2, x.f3, x.f4)) (fun y => ⟨y.1, y.2.1, y.2.2.1, y.2.2.2.1, y.2.2.2.2⟩) (fun _ => rfl)) (fun x h => ⟨h.1, h.2.1, h.2.2.1, h.2.2.2.1, h.2.2.2.2⟩)) (Nat.le_succ n)
theorem Fit48.mk_ {x : S48} (h : Fit48 x) : (fun x : Int => (Lit.int .i64 x).wf = true) x.f0 ∧ (fun x : Int => (Lit.int .i64 x).wf = true) x.f1 ∧ (fun x : Int => (Lit.int .i64 x).wf = true) x.f2 ∧ (fun _ : Bool => True) x.f3 ∧ Fit46 x.f4 := h
def Fit24 (x : S24) : Prop := (fun x : Int => (Lit.int .i64 x).wf = true) x.f0 ∧ (FitL Fit48) x.f1
theorem op24 (n : Nat) : Opn Try.prog n 24 k24 Fit24 :=
  Opn.weak (Opn.imp (op_struct (n := n) Try.underlying24 (by kernel_rfl) rfl (opF_cons ((op_int Try.underlying3) n) (opF_one ((fun n => (op_slice Try.underlying22 (by kernel_rfl) (op48 n)).weak (Nat.le_succ n)) n))) (fun x : S24 => (x.f0, x.f1)) (fun y => ⟨y.1, y.2⟩) (fun _ => rfl)) (fun x h => ⟨h.1, h.2⟩)) (Nat.le_succ n)
theorem Fit24.mk_ {x : S24} (h : Fit24 x) : (fun x : Int => (Lit.int .i64 x).wf = true) x.f0 ∧ (FitL Fit48) x.f1 := h
end Go.Proofs.Ytkmeihmfppcpaab.Q
