/- What reads as data of the types of the laws' arguments is of the printed kinds. No conditions. -/
import Derived.Test.YtmkppdeoepfpoaaDoorQx0
import Derived.Test.YtmkppdeoepfpoaaDoorQOpen
namespace Go.Proofs.YtmkppdeoepfpoaaDoor.Q
open Go.RowKit Go.Proofs.YtmkppdeoepfpoaaDoorW.PrintWords Go.Proofs.YtmkppdeoepfpoaaDoorW.PrintLast Go.Proofs.YtmkppdeoepfpoaaDoorW.PrintMore
open Go.Proofs.YtmkppdeoepfpoaaDoor.Open
inductive Fit34 : S34 → Prop
  | mk (x : S34) (h0 : (fun x : Int => (Lit.int .i64 x).wf = true) x.f0) (h1 : (fun s : ByteArray => s.size ≤ maxLen) x.f1) (h2 : (fun x : Int => (Lit.int .i64 x).wf = true) x.f2) (h3 : x.f3.length ≤ maxLen) (g3 : ∀ y, y ∈ x.f3 → Fit34 y) : Fit34 x
theorem op34u : ∀ n, Opn Tryd.prog n 34 (Kd.upto F34 4 [34] n) Fit34
  | 0 => fun H enc w base spare held m cs x hm hx => by
    have : m = 0 := by omega
    subst this
    simp [DataW.trod] at hx
  | n + 1 => Opn.imp (op_struct (n := n) Tryd.underlying34 (by kernel_rfl) rfl (opF_cons ((op_int Tryd.underlying3) n) (opF_cons ((op_string Tryd.underlying9) n) (opF_cons ((op_int Tryd.underlying3) n) (opF_one (Opn.weak (op_slice Tryd.underlying32 ((show Tryd.prog.cellsOf 34 = 4 by kernel_rfl).trans (sz34 n).symm) (op34u n)) (Nat.le_succ n)))))) (fun x : S34 => (x.f0, x.f1, x.f2, x.f3)) (fun y => ⟨y.1, y.2.1, y.2.2.1, y.2.2.2⟩) (fun _ => rfl)) (fun x h => Fit34.mk x (h.1) (h.2.1) (h.2.2.1) (h.2.2.2).1 (h.2.2.2).2)
theorem Fit34.mk_ {x : S34} (h : Fit34 x) : (fun x : Int => (Lit.int .i64 x).wf = true) x.f0 ∧ (fun s : ByteArray => s.size ≤ maxLen) x.f1 ∧ (fun x : Int => (Lit.int .i64 x).wf = true) x.f2 ∧ (FitL Fit34) x.f3 := by
  cases h with
  | mk x h0 h1 h2 h3 g3 => exact ⟨h0, h1, h2, ⟨h3, g3⟩⟩
theorem op34 (n : Nat) : Opn Tryd.prog n 34 k34 Fit34 := fun H enc w base spare held m cs x hm hx => by
  obtain ⟨y, hy, hf⟩ := op34u n H enc w base spare held m cs x hm hx
  exact ⟨y, ⟨n, hy⟩, hf⟩
end Go.Proofs.YtmkppdeoepfpoaaDoor.Q
