/- A slice that is only carried about, as a value. -/
import Derived.Test.YtcdeojfeebmonaaDoorWWords
namespace Go.Proofs.YtcdeojfeebmonaaDoor.Q
open Go.RowKit Go.Proofs.YtcdeojfeebmonaaDoorW.PrintWords
abbrev Sl:=Option Addr×Nat×Nat
abbrev encSl(x:Sl):Value:=.slice x.1 x.2.1 x.2.2
abbrev zSl:Sl:=(none,0,0)
def kOpq:Kd Sl:=Kd.scalar encSl (fun _=>rfl)
theorem at_opq{w:World}{A:Option Addr}{n:Nat}{xs:List Sl}(h:kOpq.C w A n xs)(i:Int)(h0:0≤i)(h1:i<n):∃ ad,A=some ad∧w.cell? (ad.add i.toNat)=some (.slice (rdOf zSl xs i).1 (rdOf zSl xs i).2.1 (rdOf zSl xs i).2.2) :=
  ReadsOf.at_ (Kd.reads_of_C (enc:=encSl) (d:=zSl) (h1:=fun _=>rfl) h) i h0 h1
end Go.Proofs.YtcdeojfeebmonaaDoor.Q
