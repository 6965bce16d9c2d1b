/- What reads as data of the types of the laws' arguments is of the printed kinds. No conditions. -/
import Derived.Test.YtcdeojfeebmonaaDoorQx0
import Derived.Test.YtcdeojfeebmonaaDoorQOpen
namespace Go.Proofs.YtcdeojfeebmonaaDoor.Q
open Go.RowKit Go.Proofs.YtcdeojfeebmonaaDoorW.PrintWords Go.Proofs.YtcdeojfeebmonaaDoorW.PrintLast Go.Proofs.YtcdeojfeebmonaaDoorW.PrintMore
open Go.Proofs.YtcdeojfeebmonaaDoor.Open
def Fit82(x:S82):Prop:=(fun x:Int=>(Lit.int .i64 x).wf=true) x.f0∧(fun x:Int=>(Lit.int .i64 x).wf=true) x.f1
theorem op82(n:Nat):Opn Tryd.prog n 82 k82 Fit82 :=
  Opn.weak (Opn.imp (op_struct (n:=n) Tryd.underlying82 (by kernel_rfl) rfl (opF_cons ((op_int Tryd.underlying3) n) (opF_one ((op_int Tryd.underlying3) n))) (fun x:S82=>(x.f0,x.f1)) (fun y=>⟨y.1,y.2⟩) (fun _=>rfl)) (fun x h=>⟨h.1,h.2⟩)) (Nat.le_succ n)
theorem Fit82.mk_{x:S82}(h:Fit82 x):(fun x:Int=>(Lit.int .i64 x).wf=true) x.f0∧(fun x:Int=>(Lit.int .i64 x).wf=true) x.f1:=h
def Fit66(x:S66):Prop:=(fun x:Int=>(Lit.int .i64 x).wf=true) x.f0∧(fun x:Int=>(Lit.int .i64 x).wf=true) x.f1
theorem op66(n:Nat):Opn Tryd.prog n 66 k66 Fit66 :=
  Opn.weak (Opn.imp (op_struct (n:=n) Tryd.underlying66 (by kernel_rfl) rfl (opF_cons ((op_int Tryd.underlying3) n) (opF_one ((op_int Tryd.underlying3) n))) (fun x:S66=>(x.f0,x.f1)) (fun y=>⟨y.1,y.2⟩) (fun _=>rfl)) (fun x h=>⟨h.1,h.2⟩)) (Nat.le_succ n)
theorem Fit66.mk_{x:S66}(h:Fit66 x):(fun x:Int=>(Lit.int .i64 x).wf=true) x.f0∧(fun x:Int=>(Lit.int .i64 x).wf=true) x.f1:=h
def Fit68(x:S68):Prop:=Fit66 x.f0∧(fun _:Bool=>True) x.f1
theorem op68(n:Nat):Opn Tryd.prog n 68 k68 Fit68 :=
  Opn.weak (Opn.imp (op_struct (n:=n) Tryd.underlying68 (by kernel_rfl) rfl (opF_cons (op66 n) (opF_one ((op_bool Tryd.underlying4) n))) (fun x:S68=>(x.f0,x.f1)) (fun y=>⟨y.1,y.2⟩) (fun _=>rfl)) (fun x h=>⟨h.1,h.2⟩)) (Nat.le_succ n)
theorem Fit68.mk_{x:S68}(h:Fit68 x):Fit66 x.f0∧(fun _:Bool=>True) x.f1:=h
def Fit26(x:S26):Prop:=(FitL (FitL Fit82)) x.f0∧(FitL Fit68) x.f1∧(FitL (fun _:Bool=>True)) x.f2
theorem op26(n:Nat):Opn Tryd.prog n 26 k26 Fit26 :=
  Opn.weak (Opn.imp (op_struct (n:=n) Tryd.underlying26 (by kernel_rfl) rfl (opF_cons ((fun n=>(op_slice Tryd.underlying22 (by kernel_rfl) ((fun n=>(op_slice Tryd.underlying48 (by kernel_rfl) (op82 n)).weak (Nat.le_succ n)) n)).weak (Nat.le_succ n)) n) (opF_cons ((fun n=>(op_slice Tryd.underlying23 (by kernel_rfl) (op68 n)).weak (Nat.le_succ n)) n) (opF_one ((fun n=>(op_slice Tryd.underlying24 (by kernel_rfl) ((op_bool Tryd.underlying4) n)).weak (Nat.le_succ n)) n)))) (fun x:S26=>(x.f0,x.f1,x.f2)) (fun y=>⟨y.1,y.2.1,y.2.2⟩) (fun _=>rfl)) (fun x h=>⟨h.1,h.2.1,h.2.2⟩)) (Nat.le_succ n)
theorem Fit26.mk_{x:S26}(h:Fit26 x):(FitL (FitL Fit82)) x.f0∧(FitL Fit68) x.f1∧(FitL (fun _:Bool=>True)) x.f2:=h
end Go.Proofs.YtcdeojfeebmonaaDoor.Q
