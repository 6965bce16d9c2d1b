/- What reads as data of the types of the laws' arguments is of the printed kinds. No conditions. -/
import Derived.Test.YtbfbncpbbnpdgaaDoorQx0
import Derived.Test.YtbfbncpbbnpdgaaDoorQOpen
namespace Go.Proofs.YtbfbncpbbnpdgaaDoor.Q
open Go.RowKit Go.Proofs.YtbfbncpbbnpdgaaDoorW.PrintWords Go.Proofs.YtbfbncpbbnpdgaaDoorW.PrintLast Go.Proofs.YtbfbncpbbnpdgaaDoorW.PrintMore
open Go.Proofs.YtbfbncpbbnpdgaaDoor.Open
inductive Fit48 : S48 → Prop
  | mk (x : S48) (h0 : (fun x : Int => (Lit.int .i64 x).wf = true) x.f0) (h1 : (fun s : ByteArray => s.size ≤ maxLen) x.f1) (h2 : (fun x : Int => (Lit.int .i64 x).wf = true) x.f2) (h3 : x.f3.length ≤ maxLen) (g3 : ∀ y, y ∈ x.f3 → Fit48 y) : Fit48 x
theorem op48u : ∀ n, Opn Tryd.prog n 48 (Kd.upto F48 4 [48] n) Fit48
  | 0 => fun H enc w base spare held m cs x hm hx => by
    have : m = 0 := by omega
    subst this
    simp [DataW.trod] at hx
  | n + 1 => Opn.imp (op_struct (n := n) Tryd.underlying48 (by kernel_rfl) rfl (opF_cons ((op_int Tryd.underlying3) n) (opF_cons ((op_string Tryd.underlying9) n) (opF_cons ((op_int Tryd.underlying3) n) (opF_one (Opn.weak (op_slice Tryd.underlying46 ((show Tryd.prog.cellsOf 48 = 4 by kernel_rfl).trans (sz48 n).symm) (op48u n)) (Nat.le_succ n)))))) (fun x : S48 => (x.f0, x.f1, x.f2, x.f3)) (fun y => ⟨y.1, y.2.1, y.2.2.1, y.2.2.2⟩) (fun _ => rfl)) (fun x h => Fit48.mk x (h.1) (h.2.1) (h.2.2.1) (h.2.2.2).1 (h.2.2.2).2)
theorem Fit48.mk_ {x : S48} (h : Fit48 x) : (fun x : Int => (Lit.int .i64 x).wf = true) x.f0 ∧ (fun s : ByteArray => s.size ≤ maxLen) x.f1 ∧ (fun x : Int => (Lit.int .i64 x).wf = true) x.f2 ∧ (FitL Fit48) x.f3 := by
  cases h with
  | mk x h0 h1 h2 h3 g3 => exact ⟨h0, h1, h2, ⟨h3, g3⟩⟩
theorem op48 (n : Nat) : Opn Tryd.prog n 48 k48 Fit48 := fun H enc w base spare held m cs x hm hx => by
  obtain ⟨y, hy, hf⟩ := op48u n H enc w base spare held m cs x hm hx
  exact ⟨y, ⟨n, hy⟩, hf⟩
def Fit50 (x : S50) : Prop := (fun x : Int => (Lit.int .i64 x).wf = true) x.f0 ∧ (fun x : Int => (Lit.int .i64 x).wf = true) x.f1 ∧ (fun x : Int => (Lit.int .i64 x).wf = true) x.f2 ∧ (fun _ : Bool => True) x.f3 ∧ Fit48 x.f4
theorem op50 (n : Nat) : Opn Tryd.prog n 50 k50 Fit50 :=
  Opn.weak (Opn.imp (op_struct (n := n) Tryd.underlying50 (by kernel_rfl) rfl (opF_cons ((op_int Tryd.underlying3) n) (opF_cons ((op_int Tryd.underlying3) n) (opF_cons ((op_int Tryd.underlying3) n) (opF_cons ((op_bool Tryd.underlying4) n) (opF_one (op48 n)))))) (fun x : S50 => (x.f0, x.f1, x.f2, x.f3, x.f4)) (fun y => ⟨y.1, y.2.1, y.2.2.1, y.2.2.2.1, y.2.2.2.2⟩) (fun _ => rfl)) (fun x h => ⟨h.1, h.2.1, h.2.2.1, h.2.2.2.1, h.2.2.2.2⟩)) (Nat.le_succ n)
theorem Fit50.mk_ {x : S50} (h : Fit50 x) : (fun x : Int => (Lit.int .i64 x).wf = true) x.f0 ∧ (fun x : Int => (Lit.int .i64 x).wf = true) x.f1 ∧ (fun x : Int => (Lit.int .i64 x).wf = true) x.f2 ∧ (fun _ : Bool => True) x.f3 ∧ Fit48 x.f4 := h
def Fit24 (x : S24) : Prop := (fun x : Int => (Lit.int .i64 x).wf = true) x.f0 ∧ (FitL Fit50) x.f1
theorem op24 (n : Nat) : Opn Tryd.prog n 24 k24 Fit24 :=
  Opn.weak (Opn.imp (op_struct (n := n) Tryd.underlying24 (by kernel_rfl) rfl (opF_cons ((op_int Tryd.underlying3) n) (opF_one ((fun n => (op_slice Tryd.underlying22 (by kernel_rfl) (op50 n)).weak (Nat.le_succ n)) n))) (fun x : S24 => (x.f0, x.f1)) (fun y => ⟨y.1, y.2⟩) (fun _ => rfl)) (fun x h => ⟨h.1, h.2⟩)) (Nat.le_succ n)
theorem Fit24.mk_ {x : S24} (h : Fit24 x) : (fun x : Int => (Lit.int .i64 x).wf = true) x.f0 ∧ (FitL Fit50) x.f1 := h
end Go.Proofs.YtbfbncpbbnpdgaaDoor.Q
