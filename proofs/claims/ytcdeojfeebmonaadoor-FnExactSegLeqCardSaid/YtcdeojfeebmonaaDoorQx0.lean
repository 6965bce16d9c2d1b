/- Functions of the translation as Lean functions, each with a proof that a call answers so; out of the seat, by this claim's own program prt.py. -/
import Derived.Test.YtcdeojfeebmonaaDoorProg
import Derived.Below
import Derived.Deep.Draws
import Derived.Deep.AppendLies
import Derived.Maps.AppendAt
import Derived.OwnWalk
import Derived.Laws.BytesArg
import Derived.Laws.MakeOwn
import Derived.Laws.OwnMore
import Derived.Deep.OwnRows
import Derived.Tactics
import Derived.Lib.ConvBytes
import Derived.Laws.Slices
import Derived.WalkKit
import Derived.KernelRfl
import Derived.RowKit3
import Derived.Deep.LoopGhost
import Derived.Deep.QuietTactic
import Derived.BigQuiet
import Derived.WideLaws
import Derived.Deep.DeepCutAuto
import Derived.Deep.CutBlock
import Derived.Deep.RegionHeld3
import Derived.Laws.Rows
import Derived.Lib.AppendStr
import Derived.ArgAppend
import Derived.Laws.IdiomCopy
import Derived.OrdersHeld
import Derived.Laws.BitsLemmas
import Derived.RowKit
import Derived.Test.YtcdeojfeebmonaaDoorQShelf
import Derived.Lib.LaidTab
import Derived.Lib.AppendIntMem
import Derived.Lib.AtoiErrMem
import Derived.Lib.SliceRun
import Derived.BigCall
import Derived.WalkSmall
import Derived.Laws.CopyOwn
import Derived.Deep.RegionLaw
import Derived.Test.YtcdeojfeebmonaaDoorQOpq
import Derived.Test.YtcdeojfeebmonaaDoorWWords
import Derived.Test.YtcdeojfeebmonaaDoorWLast
import Derived.Test.YtcdeojfeebmonaaDoorWQPut
import Derived.Test.YtcdeojfeebmonaaDoorWApart
import Derived.Test.YtcdeojfeebmonaaDoorWArr
import Derived.Test.YtcdeojfeebmonaaDoorWZeros
import Derived.Test.YtcdeojfeebmonaaDoorWFoot
import Derived.Test.YtcdeojfeebmonaaDoorWKept
import Derived.Test.YtcdeojfeebmonaaDoorWShare
import Derived.Test.YtcdeojfeebmonaaDoorWN
import Derived.Test.YtcdeojfeebmonaaDoorWRepsOne
import Derived.Test.YtcdeojfeebmonaaDoorWNEv
import Derived.Test.YtcdeojfeebmonaaDoorWMore
namespace Go.Proofs.YtcdeojfeebmonaaDoor.Q
open Go.RowKit Go.Proofs.YtcdeojfeebmonaaDoorW.PrintWords Go.Proofs.YtcdeojfeebmonaaDoorW.PrintLast Go.Proofs.YtcdeojfeebmonaaDoorW.PrintMore
attribute [local go_sem] max2_int min2_int max_two min_two max_three min_three max_four min_four
set_option linter.unusedVariables false
set_option linter.unusedSimpArgs false
def errW:Option Int→Value
 |none=>.nilIface
 |some c=>.iface 0 (.int .i64 c)
theorem errW_none:errW none=.nilIface:=rfl
theorem errW_some(c:Int):errW (some c)=.iface 0 (.int .i64 c):=rfl
theorem info4:(Tryd.prog.info? 4).map (fun i=>(i.zero,i.size,i.bytes))=some (some (.bool false),1,1):=by kernel_rfl
theorem info50:(Tryd.prog.info? 50).map (fun i=>(i.zero,i.size,i.bytes))=some (some (.slice none 0 0),1,24):=by kernel_rfl
theorem info53:(Tryd.prog.info? 53).map (fun i=>(i.zero,i.size,i.bytes))=some (some (.agg #[(.int .i64 0),(.int .i64 0)]),2,16):=by kernel_rfl
theorem info60:(Tryd.prog.info? 60).map (fun i=>(i.zero,i.size,i.bytes))=some (some (.agg #[(.int .i64 0),(.int .i64 0),(.bool false)]),3,24):=by kernel_rfl
theorem info98:(Tryd.prog.info? 98).map (fun i=>(i.zero,i.size,i.bytes))=some (some (.agg #[(.int .i64 0),(.int .i64 0),(.slice none 0 0)]),3,40):=by kernel_rfl
structure S82 where
 f0:Int
 f1:Int
def z82:S82:=⟨(0:Int),(0:Int)⟩
def k82:Kd S82:=Kd.iso (Kd.pair (Kd.int .i64) (Kd.int .i64)) (fun x:S82=>(x.f0,x.f1))
theorem k82_open{w:World}{x:S82}{cs:List Value}(h:k82.K w x cs):cs=[.int .i64 x.f0,.int .i64 x.f1]:=by
 obtain⟨_,_,rfl,rfl,rfl⟩:=h;exact rfl
theorem k82_openM{w:World}{base:Nat}{ok:Nat→Prop}{x:S82}{cs:List Value}(h:k82.M w base ok x cs):cs=[.int .i64 x.f0,.int .i64 x.f1]:=by
 obtain⟨_,_,rfl,rfl,rfl⟩:=h;exact rfl
theorem k82_mk(w:World)(x:S82):k82.K w x [.int .i64 x.f0,.int .i64 x.f1]:=⟨[.int .i64 x.f0],[.int .i64 x.f1],rfl,rfl,rfl⟩
theorem k82_mkM(w:World)(base:Nat)(ok:Nat→Prop)(x:S82):k82.M w base ok x [.int .i64 x.f0,.int .i64 x.f1]:=⟨[.int .i64 x.f0],[.int .i64 x.f1],rfl,rfl,rfl⟩
theorem k82_mkF(W:World)(ok:Nat→Prop)(x:S82):Kd.FK k82 W ok x [.int .i64 x.f0,.int .i64 x.f1]:=fun W2 _=>k82_mk W2 x
def rd_T82(xs:List S82)(i:Int):S82:=xs.getD i.toNat z82
theorem at_T82{w:World}{A:Option Addr}{n:Nat}{xs:List S82}(h:Kd.C k82 w A n xs)(i:Int)(h0:0≤i)(h1:i<n):∃ ad , A=some ad∧w.cell? (ad.add (i.toNat*2))=some (.int .i64 (rd_T82 xs i).f0)∧w.cell? ⟨(ad.add (i.toNat*2)).block,(ad.add (i.toNat*2)).off+1,none⟩=some (.int .i64 (rd_T82 xs i).f1):=by
 obtain⟨ad,c,e,_,hK,hc0⟩:=Kd.C_get h z82 i h0 h1;have hc:∀ j u,c[j]?=some u→w.cell? (ad.add (i.toNat*2+j))=some u:=hc0;obtain rfl:=k82_open hK;exact⟨ad,e,hc 0 _ rfl,by rw [← add_field _ _ 1 (by omega)];exact hc 1 _ rfl⟩
def rd_L2(xs:List (List S82))(i:Int):(List S82):=xs.getD i.toNat ([]:List S82)
theorem at_L2{w:World}{A:Option Addr}{n:Nat}{xs:List (List S82)}(h:Kd.C (Kd.slice 82 k82) w A n xs)(i:Int)(h0:0≤i)(h1:i<n):∃ ad A0 c0,A=some ad∧w.cell? (ad.add i.toNat)=some (.slice A0 (rd_L2 xs i).length c0)∧(rd_L2 xs i).length≤c0∧k82.C w A0 (rd_L2 xs i).length (rd_L2 xs i):=by
 obtain⟨ad,c,e,_,hK,hc0⟩:=Kd.C_get h ([]:List S82) i h0 h1;have hc:∀ j u,c[j]?=some u→w.cell? (ad.add (i.toNat*1+j))=some u:=hc0;obtain⟨A0,c0,rfl,l0,g0⟩:=hK;exact⟨ad,A0,c0,e,by have hq:=hc 0 _ rfl;rwa [Nat.mul_one,Nat.add_zero]at hq,l0,g0⟩
structure S66 where
 f0:Int
 f1:Int
def z66:S66:=⟨(0:Int),(0:Int)⟩
def k66:Kd S66:=Kd.iso (Kd.pair (Kd.int .i64) (Kd.int .i64)) (fun x:S66=>(x.f0,x.f1))
theorem k66_open{w:World}{x:S66}{cs:List Value}(h:k66.K w x cs):cs=[.int .i64 x.f0,.int .i64 x.f1]:=by
 obtain⟨_,_,rfl,rfl,rfl⟩:=h;exact rfl
theorem k66_openM{w:World}{base:Nat}{ok:Nat→Prop}{x:S66}{cs:List Value}(h:k66.M w base ok x cs):cs=[.int .i64 x.f0,.int .i64 x.f1]:=by
 obtain⟨_,_,rfl,rfl,rfl⟩:=h;exact rfl
theorem k66_mk(w:World)(x:S66):k66.K w x [.int .i64 x.f0,.int .i64 x.f1]:=⟨[.int .i64 x.f0],[.int .i64 x.f1],rfl,rfl,rfl⟩
theorem k66_mkM(w:World)(base:Nat)(ok:Nat→Prop)(x:S66):k66.M w base ok x [.int .i64 x.f0,.int .i64 x.f1]:=⟨[.int .i64 x.f0],[.int .i64 x.f1],rfl,rfl,rfl⟩
theorem k66_mkF(W:World)(ok:Nat→Prop)(x:S66):Kd.FK k66 W ok x [.int .i64 x.f0,.int .i64 x.f1]:=fun W2 _=>k66_mk W2 x
def rd_T66(xs:List S66)(i:Int):S66:=xs.getD i.toNat z66
theorem at_T66{w:World}{A:Option Addr}{n:Nat}{xs:List S66}(h:Kd.C k66 w A n xs)(i:Int)(h0:0≤i)(h1:i<n):∃ ad , A=some ad∧w.cell? (ad.add (i.toNat*2))=some (.int .i64 (rd_T66 xs i).f0)∧w.cell? ⟨(ad.add (i.toNat*2)).block,(ad.add (i.toNat*2)).off+1,none⟩=some (.int .i64 (rd_T66 xs i).f1):=by
 obtain⟨ad,c,e,_,hK,hc0⟩:=Kd.C_get h z66 i h0 h1;have hc:∀ j u,c[j]?=some u→w.cell? (ad.add (i.toNat*2+j))=some u:=hc0;obtain rfl:=k66_open hK;exact⟨ad,e,hc 0 _ rfl,by rw [← add_field _ _ 1 (by omega)];exact hc 1 _ rfl⟩
structure S68 where
 f0:S66
 f1:Bool
def z68:S68:=⟨z66,false⟩
def k68:Kd S68:=Kd.iso (Kd.pair k66 Kd.bool) (fun x:S68=>(x.f0,x.f1))
theorem k68_open{w:World}{x:S68}{cs:List Value}(h:k68.K w x cs):cs=[.int .i64 x.f0.f0,.int .i64 x.f0.f1,.bool x.f1]:=by
 obtain⟨_,_,rfl,s0,rfl⟩:=h;obtain rfl:=k66_open s0;exact rfl
theorem k68_openM{w:World}{base:Nat}{ok:Nat→Prop}{x:S68}{cs:List Value}(h:k68.M w base ok x cs):cs=[.int .i64 x.f0.f0,.int .i64 x.f0.f1,.bool x.f1]:=by
 obtain⟨_,_,rfl,s0,rfl⟩:=h;obtain rfl:=k66_openM s0;exact rfl
theorem k68_mk(w:World)(x:S68):k68.K w x [.int .i64 x.f0.f0,.int .i64 x.f0.f1,.bool x.f1]:=⟨[.int .i64 x.f0.f0,.int .i64 x.f0.f1],[.bool x.f1],rfl,(k66_mk w x.f0 ),rfl⟩
theorem k68_mkM(w:World)(base:Nat)(ok:Nat→Prop)(x:S68):k68.M w base ok x [.int .i64 x.f0.f0,.int .i64 x.f0.f1,.bool x.f1]:=⟨[.int .i64 x.f0.f0,.int .i64 x.f0.f1],[.bool x.f1],rfl,(k66_mkM w base ok x.f0 ),rfl⟩
theorem k68_mkF(W:World)(ok:Nat→Prop)(x:S68):Kd.FK k68 W ok x [.int .i64 x.f0.f0,.int .i64 x.f0.f1,.bool x.f1]:=fun W2 _=>k68_mk W2 x
def rd_T68(xs:List S68)(i:Int):S68:=xs.getD i.toNat z68
theorem at_T68{w:World}{A:Option Addr}{n:Nat}{xs:List S68}(h:Kd.C k68 w A n xs)(i:Int)(h0:0≤i)(h1:i<n):∃ ad , A=some ad∧w.cell? (ad.add (i.toNat*3))=some (.int .i64 (rd_T68 xs i).f0.f0)∧w.cell? ⟨(ad.add (i.toNat*3)).block,(ad.add (i.toNat*3)).off+1,none⟩=some (.int .i64 (rd_T68 xs i).f0.f1)∧w.cell? ⟨(ad.add (i.toNat*3)).block,(ad.add (i.toNat*3)).off+2,none⟩=some (.bool (rd_T68 xs i).f1):=by
 obtain⟨ad,c,e,_,hK,hc0⟩:=Kd.C_get h z68 i h0 h1;have hc:∀ j u,c[j]?=some u→w.cell? (ad.add (i.toNat*3+j))=some u:=hc0;obtain rfl:=k68_open hK;exact⟨ad,e,hc 0 _ rfl,by rw [← add_field _ _ 1 (by omega)];exact hc 1 _ rfl,by rw [← add_field _ _ 2 (by omega)];exact hc 2 _ rfl⟩
structure S53 where
 f0:Int
 f1:Int
def z53:S53:=⟨(0:Int),(0:Int)⟩
def k53:Kd S53:=Kd.iso (Kd.pair (Kd.int .i64) (Kd.int .i64)) (fun x:S53=>(x.f0,x.f1))
theorem k53_open{w:World}{x:S53}{cs:List Value}(h:k53.K w x cs):cs=[.int .i64 x.f0,.int .i64 x.f1]:=by
 obtain⟨_,_,rfl,rfl,rfl⟩:=h;exact rfl
theorem k53_openM{w:World}{base:Nat}{ok:Nat→Prop}{x:S53}{cs:List Value}(h:k53.M w base ok x cs):cs=[.int .i64 x.f0,.int .i64 x.f1]:=by
 obtain⟨_,_,rfl,rfl,rfl⟩:=h;exact rfl
theorem k53_mk(w:World)(x:S53):k53.K w x [.int .i64 x.f0,.int .i64 x.f1]:=⟨[.int .i64 x.f0],[.int .i64 x.f1],rfl,rfl,rfl⟩
theorem k53_mkM(w:World)(base:Nat)(ok:Nat→Prop)(x:S53):k53.M w base ok x [.int .i64 x.f0,.int .i64 x.f1]:=⟨[.int .i64 x.f0],[.int .i64 x.f1],rfl,rfl,rfl⟩
theorem k53_mkF(W:World)(ok:Nat→Prop)(x:S53):Kd.FK k53 W ok x [.int .i64 x.f0,.int .i64 x.f1]:=fun W2 _=>k53_mk W2 x
def rd_T53(xs:List S53)(i:Int):S53:=xs.getD i.toNat z53
theorem at_T53{w:World}{A:Option Addr}{n:Nat}{xs:List S53}(h:Kd.C k53 w A n xs)(i:Int)(h0:0≤i)(h1:i<n):∃ ad , A=some ad∧w.cell? (ad.add (i.toNat*2))=some (.int .i64 (rd_T53 xs i).f0)∧w.cell? ⟨(ad.add (i.toNat*2)).block,(ad.add (i.toNat*2)).off+1,none⟩=some (.int .i64 (rd_T53 xs i).f1):=by
 obtain⟨ad,c,e,_,hK,hc0⟩:=Kd.C_get h z53 i h0 h1;have hc:∀ j u,c[j]?=some u→w.cell? (ad.add (i.toNat*2+j))=some u:=hc0;obtain rfl:=k53_open hK;exact⟨ad,e,hc 0 _ rfl,by rw [← add_field _ _ 1 (by omega)];exact hc 1 _ rfl⟩
def rd_L7(xs:List (List S53))(i:Int):(List S53):=xs.getD i.toNat ([]:List S53)
theorem at_L7{w:World}{A:Option Addr}{n:Nat}{xs:List (List S53)}(h:Kd.C (Kd.slice 53 k53) w A n xs)(i:Int)(h0:0≤i)(h1:i<n):∃ ad A0 c0,A=some ad∧w.cell? (ad.add i.toNat)=some (.slice A0 (rd_L7 xs i).length c0)∧(rd_L7 xs i).length≤c0∧k53.C w A0 (rd_L7 xs i).length (rd_L7 xs i):=by
 obtain⟨ad,c,e,_,hK,hc0⟩:=Kd.C_get h ([]:List S53) i h0 h1;have hc:∀ j u,c[j]?=some u→w.cell? (ad.add (i.toNat*1+j))=some u:=hc0;obtain⟨A0,c0,rfl,l0,g0⟩:=hK;exact⟨ad,A0,c0,e,by have hq:=hc 0 _ rfl;rwa [Nat.mul_one,Nat.add_zero]at hq,l0,g0⟩
structure S58 where
 f0:Int
 f1:Int
def z58:S58:=⟨(0:Int),(0:Int)⟩
def k58:Kd S58:=Kd.iso (Kd.pair (Kd.int .i64) (Kd.int .i64)) (fun x:S58=>(x.f0,x.f1))
theorem k58_open{w:World}{x:S58}{cs:List Value}(h:k58.K w x cs):cs=[.int .i64 x.f0,.int .i64 x.f1]:=by
 obtain⟨_,_,rfl,rfl,rfl⟩:=h;exact rfl
theorem k58_openM{w:World}{base:Nat}{ok:Nat→Prop}{x:S58}{cs:List Value}(h:k58.M w base ok x cs):cs=[.int .i64 x.f0,.int .i64 x.f1]:=by
 obtain⟨_,_,rfl,rfl,rfl⟩:=h;exact rfl
theorem k58_mk(w:World)(x:S58):k58.K w x [.int .i64 x.f0,.int .i64 x.f1]:=⟨[.int .i64 x.f0],[.int .i64 x.f1],rfl,rfl,rfl⟩
theorem k58_mkM(w:World)(base:Nat)(ok:Nat→Prop)(x:S58):k58.M w base ok x [.int .i64 x.f0,.int .i64 x.f1]:=⟨[.int .i64 x.f0],[.int .i64 x.f1],rfl,rfl,rfl⟩
theorem k58_mkF(W:World)(ok:Nat→Prop)(x:S58):Kd.FK k58 W ok x [.int .i64 x.f0,.int .i64 x.f1]:=fun W2 _=>k58_mk W2 x
def rd_T58(xs:List S58)(i:Int):S58:=xs.getD i.toNat z58
theorem at_T58{w:World}{A:Option Addr}{n:Nat}{xs:List S58}(h:Kd.C k58 w A n xs)(i:Int)(h0:0≤i)(h1:i<n):∃ ad , A=some ad∧w.cell? (ad.add (i.toNat*2))=some (.int .i64 (rd_T58 xs i).f0)∧w.cell? ⟨(ad.add (i.toNat*2)).block,(ad.add (i.toNat*2)).off+1,none⟩=some (.int .i64 (rd_T58 xs i).f1):=by
 obtain⟨ad,c,e,_,hK,hc0⟩:=Kd.C_get h z58 i h0 h1;have hc:∀ j u,c[j]?=some u→w.cell? (ad.add (i.toNat*2+j))=some u:=hc0;obtain rfl:=k58_open hK;exact⟨ad,e,hc 0 _ rfl,by rw [← add_field _ _ 1 (by omega)];exact hc 1 _ rfl⟩
structure S60 where
 f0:S58
 f1:Bool
def z60:S60:=⟨z58,false⟩
def k60:Kd S60:=Kd.iso (Kd.pair k58 Kd.bool) (fun x:S60=>(x.f0,x.f1))
theorem k60_open{w:World}{x:S60}{cs:List Value}(h:k60.K w x cs):cs=[.int .i64 x.f0.f0,.int .i64 x.f0.f1,.bool x.f1]:=by
 obtain⟨_,_,rfl,s0,rfl⟩:=h;obtain rfl:=k58_open s0;exact rfl
theorem k60_openM{w:World}{base:Nat}{ok:Nat→Prop}{x:S60}{cs:List Value}(h:k60.M w base ok x cs):cs=[.int .i64 x.f0.f0,.int .i64 x.f0.f1,.bool x.f1]:=by
 obtain⟨_,_,rfl,s0,rfl⟩:=h;obtain rfl:=k58_openM s0;exact rfl
theorem k60_mk(w:World)(x:S60):k60.K w x [.int .i64 x.f0.f0,.int .i64 x.f0.f1,.bool x.f1]:=⟨[.int .i64 x.f0.f0,.int .i64 x.f0.f1],[.bool x.f1],rfl,(k58_mk w x.f0 ),rfl⟩
theorem k60_mkM(w:World)(base:Nat)(ok:Nat→Prop)(x:S60):k60.M w base ok x [.int .i64 x.f0.f0,.int .i64 x.f0.f1,.bool x.f1]:=⟨[.int .i64 x.f0.f0,.int .i64 x.f0.f1],[.bool x.f1],rfl,(k58_mkM w base ok x.f0 ),rfl⟩
theorem k60_mkF(W:World)(ok:Nat→Prop)(x:S60):Kd.FK k60 W ok x [.int .i64 x.f0.f0,.int .i64 x.f0.f1,.bool x.f1]:=fun W2 _=>k60_mk W2 x
def rd_T60(xs:List S60)(i:Int):S60:=xs.getD i.toNat z60
theorem at_T60{w:World}{A:Option Addr}{n:Nat}{xs:List S60}(h:Kd.C k60 w A n xs)(i:Int)(h0:0≤i)(h1:i<n):∃ ad , A=some ad∧w.cell? (ad.add (i.toNat*3))=some (.int .i64 (rd_T60 xs i).f0.f0)∧w.cell? ⟨(ad.add (i.toNat*3)).block,(ad.add (i.toNat*3)).off+1,none⟩=some (.int .i64 (rd_T60 xs i).f0.f1)∧w.cell? ⟨(ad.add (i.toNat*3)).block,(ad.add (i.toNat*3)).off+2,none⟩=some (.bool (rd_T60 xs i).f1):=by
 obtain⟨ad,c,e,_,hK,hc0⟩:=Kd.C_get h z60 i h0 h1;have hc:∀ j u,c[j]?=some u→w.cell? (ad.add (i.toNat*3+j))=some u:=hc0;obtain rfl:=k60_open hK;exact⟨ad,e,hc 0 _ rfl,by rw [← add_field _ _ 1 (by omega)];exact hc 1 _ rfl,by rw [← add_field _ _ 2 (by omega)];exact hc 2 _ rfl⟩
structure S98 where
 f0:Int
 f1:Int
 f2:(List S53)
def z98:S98:=⟨(0:Int),(0:Int),([]:List S53)⟩
def k98:Kd S98:=Kd.iso (Kd.pair (Kd.int .i64) (Kd.pair (Kd.int .i64) (Kd.slice 53 k53))) (fun x:S98=>(x.f0,x.f1,x.f2))
theorem k98_open{w:World}{x:S98}{cs:List Value}(h:k98.K w x cs):∃ A2 c2,cs=[.int .i64 x.f0,.int .i64 x.f1,.slice A2 x.f2.length c2]∧x.f2.length≤c2∧k53.C w A2 x.f2.length x.f2:=by
 obtain⟨_,_,rfl,rfl,⟨_,_,rfl,rfl,⟨A2,c2,rfl,l2,g2⟩⟩⟩:=h;exact⟨A2,c2,rfl,l2,g2⟩
theorem k98_openM{w:World}{base:Nat}{ok:Nat→Prop}{x:S98}{cs:List Value}(h:k98.M w base ok x cs):∃ v2,cs=[.int .i64 x.f0,.int .i64 x.f1,v2]∧k53.R 53 w base ok v2 x.f2:=by
 obtain⟨_,_,rfl,rfl,⟨_,_,rfl,rfl,⟨v2,rfl,g2⟩⟩⟩:=h;exact⟨v2,rfl,g2⟩
theorem k98_mk(w:World)(x:S98){A2:Option Addr}{c2:Nat}(l2:x.f2.length≤c2)(g2:k53.C w A2 x.f2.length x.f2):k98.K w x [.int .i64 x.f0,.int .i64 x.f1,.slice A2 x.f2.length c2]:=⟨[.int .i64 x.f0],[.int .i64 x.f1,.slice A2 x.f2.length c2],rfl,rfl,⟨[.int .i64 x.f1],[.slice A2 x.f2.length c2],rfl,rfl,⟨A2,c2,rfl,l2,g2⟩⟩⟩
theorem k98_mkM(w:World)(base:Nat)(ok:Nat→Prop)(x:S98){v2:Value}(g2:k53.R 53 w base ok v2 x.f2):k98.M w base ok x [.int .i64 x.f0,.int .i64 x.f1,v2]:=⟨[.int .i64 x.f0],[.int .i64 x.f1,v2],rfl,rfl,⟨[.int .i64 x.f1],[v2],rfl,rfl,⟨v2,rfl,g2⟩⟩⟩
theorem k98_openF{W:World}{ok:Nat→Prop}{x:S98}{cs:List Value}(h:Kd.FK k98 W ok x cs):∃ A2 c2,cs=[.int .i64 x.f0,.int .i64 x.f1,.slice A2 x.f2.length c2]∧x.f2.length≤c2∧Kd.F k53 W ok A2 x.f2.length x.f2:=by
 obtain⟨A2,c2,rfl,l2,_⟩:=k98_open (Kd.FK_now h);exact⟨A2,c2,rfl,l2,(fun W' hW=>by obtain⟨A2_,c2_,he,l2_,g2_⟩:=k98_open (h W' hW);injection (Option.some.inj (show some (Value.slice A2 x.f2.length c2)=some (Value.slice A2_ x.f2.length c2_) from congrArg (fun l=>l[2]?) he))with ha_ _ _;rw [ha_];exact g2_)⟩
theorem k98_mkF(W:World)(ok:Nat→Prop)(x:S98){A2:Option Addr}{c2:Nat}(l2:x.f2.length≤c2)(g2:Kd.F k53 W ok A2 x.f2.length x.f2):Kd.FK k98 W ok x [.int .i64 x.f0,.int .i64 x.f1,.slice A2 x.f2.length c2]:=fun W2 hW=>k98_mk W2 x l2 (g2 W2 hW)
def rd_T98(xs:List S98)(i:Int):S98:=xs.getD i.toNat z98
theorem at_T98{w:World}{A:Option Addr}{n:Nat}{xs:List S98}(h:Kd.C k98 w A n xs)(i:Int)(h0:0≤i)(h1:i<n):∃ ad A2 c2,A=some ad∧w.cell? (ad.add (i.toNat*3))=some (.int .i64 (rd_T98 xs i).f0)∧w.cell? ⟨(ad.add (i.toNat*3)).block,(ad.add (i.toNat*3)).off+1,none⟩=some (.int .i64 (rd_T98 xs i).f1)∧w.cell? ⟨(ad.add (i.toNat*3)).block,(ad.add (i.toNat*3)).off+2,none⟩=some (.slice A2 (rd_T98 xs i).f2.length c2)∧(rd_T98 xs i).f2.length≤c2∧k53.C w A2 (rd_T98 xs i).f2.length (rd_T98 xs i).f2:=by
 obtain⟨ad,c,e,_,hK,hc0⟩:=Kd.C_get h z98 i h0 h1;have hc:∀ j u,c[j]?=some u→w.cell? (ad.add (i.toNat*3+j))=some u:=hc0;obtain⟨A2,c2,rfl,l2,g2⟩:=k98_open hK;exact⟨ad,A2,c2,e,hc 0 _ rfl,by rw [← add_field _ _ 1 (by omega)];exact hc 1 _ rfl,by rw [← add_field _ _ 2 (by omega)];exact hc 2 _ rfl,l2,g2⟩
def rd_L11(xs:List (List (List S53)))(i:Int):(List (List S53)):=xs.getD i.toNat ([]:List (List S53))
theorem at_L11{w:World}{A:Option Addr}{n:Nat}{xs:List (List (List S53))}(h:Kd.C (Kd.slice 50 (Kd.slice 53 k53)) w A n xs)(i:Int)(h0:0≤i)(h1:i<n):∃ ad A0 c0,A=some ad∧w.cell? (ad.add i.toNat)=some (.slice A0 (rd_L11 xs i).length c0)∧(rd_L11 xs i).length≤c0∧(Kd.slice 53 k53).C w A0 (rd_L11 xs i).length (rd_L11 xs i):=by
 obtain⟨ad,c,e,_,hK,hc0⟩:=Kd.C_get h ([]:List (List S53)) i h0 h1;have hc:∀ j u,c[j]?=some u→w.cell? (ad.add (i.toNat*1+j))=some u:=hc0;obtain⟨A0,c0,rfl,l0,g0⟩:=hK;exact⟨ad,A0,c0,e,by have hq:=hc 0 _ rfl;rwa [Nat.mul_one,Nat.add_zero]at hq,l0,g0⟩
def rd_L12(xs:List (List S60))(i:Int):(List S60):=xs.getD i.toNat ([]:List S60)
theorem at_L12{w:World}{A:Option Addr}{n:Nat}{xs:List (List S60)}(h:Kd.C (Kd.slice 60 k60) w A n xs)(i:Int)(h0:0≤i)(h1:i<n):∃ ad A0 c0,A=some ad∧w.cell? (ad.add i.toNat)=some (.slice A0 (rd_L12 xs i).length c0)∧(rd_L12 xs i).length≤c0∧k60.C w A0 (rd_L12 xs i).length (rd_L12 xs i):=by
 obtain⟨ad,c,e,_,hK,hc0⟩:=Kd.C_get h ([]:List S60) i h0 h1;have hc:∀ j u,c[j]?=some u→w.cell? (ad.add (i.toNat*1+j))=some u:=hc0;obtain⟨A0,c0,rfl,l0,g0⟩:=hK;exact⟨ad,A0,c0,e,by have hq:=hc 0 _ rfl;rwa [Nat.mul_one,Nat.add_zero]at hq,l0,g0⟩
def rd_L13(xs:List (List Bool))(i:Int):(List Bool):=xs.getD i.toNat ([]:List Bool)
theorem at_L13{w:World}{A:Option Addr}{n:Nat}{xs:List (List Bool)}(h:Kd.C (Kd.slice 4 Kd.bool) w A n xs)(i:Int)(h0:0≤i)(h1:i<n):∃ ad A0 c0,A=some ad∧w.cell? (ad.add i.toNat)=some (.slice A0 (rd_L13 xs i).length c0)∧(rd_L13 xs i).length≤c0∧Kd.bool.C w A0 (rd_L13 xs i).length (rd_L13 xs i):=by
 obtain⟨ad,c,e,_,hK,hc0⟩:=Kd.C_get h ([]:List Bool) i h0 h1;have hc:∀ j u,c[j]?=some u→w.cell? (ad.add (i.toNat*1+j))=some u:=hc0;obtain⟨A0,c0,rfl,l0,g0⟩:=hK;exact⟨ad,A0,c0,e,by have hq:=hc 0 _ rfl;rwa [Nat.mul_one,Nat.add_zero]at hq,l0,g0⟩
structure S32 where
 f0:(List (List S53))
 f1:(List S60)
 f2:(List Bool)
def z32:S32:=⟨([]:List (List S53)),([]:List S60),([]:List Bool)⟩
def k32:Kd S32:=Kd.iso (Kd.pair (Kd.slice 50 (Kd.slice 53 k53)) (Kd.pair (Kd.slice 60 k60) (Kd.slice 4 Kd.bool))) (fun x:S32=>(x.f0,x.f1,x.f2))
theorem k32_open{w:World}{x:S32}{cs:List Value}(h:k32.K w x cs):∃ A0 c0 A1 c1 A2 c2,cs=[.slice A0 x.f0.length c0,.slice A1 x.f1.length c1,.slice A2 x.f2.length c2]∧x.f0.length≤c0∧(Kd.slice 53 k53).C w A0 x.f0.length x.f0∧x.f1.length≤c1∧k60.C w A1 x.f1.length x.f1∧x.f2.length≤c2∧Kd.bool.C w A2 x.f2.length x.f2:=by
 obtain⟨_,_,rfl,⟨A0,c0,rfl,l0,g0⟩,⟨_,_,rfl,⟨A1,c1,rfl,l1,g1⟩,⟨A2,c2,rfl,l2,g2⟩⟩⟩:=h;exact⟨A0,c0,A1,c1,A2,c2,rfl,l0,g0,l1,g1,l2,g2⟩
theorem k32_openM{w:World}{base:Nat}{ok:Nat→Prop}{x:S32}{cs:List Value}(h:k32.M w base ok x cs):∃ v0 v1 v2,cs=[v0,v1,v2]∧(Kd.slice 53 k53).R 50 w base ok v0 x.f0∧k60.R 60 w base ok v1 x.f1∧Kd.bool.R 4 w base ok v2 x.f2:=by
 obtain⟨_,_,rfl,⟨v0,rfl,g0⟩,⟨_,_,rfl,⟨v1,rfl,g1⟩,⟨v2,rfl,g2⟩⟩⟩:=h;exact⟨v0,v1,v2,rfl,g0,g1,g2⟩
theorem k32_mk(w:World)(x:S32){A0:Option Addr}{c0:Nat}(l0:x.f0.length≤c0)(g0:(Kd.slice 53 k53).C w A0 x.f0.length x.f0){A1:Option Addr}{c1:Nat}(l1:x.f1.length≤c1)(g1:k60.C w A1 x.f1.length x.f1){A2:Option Addr}{c2:Nat}(l2:x.f2.length≤c2)(g2:Kd.bool.C w A2 x.f2.length x.f2):k32.K w x [.slice A0 x.f0.length c0,.slice A1 x.f1.length c1,.slice A2 x.f2.length c2]:=⟨[.slice A0 x.f0.length c0],[.slice A1 x.f1.length c1,.slice A2 x.f2.length c2],rfl,⟨A0,c0,rfl,l0,g0⟩,⟨[.slice A1 x.f1.length c1],[.slice A2 x.f2.length c2],rfl,⟨A1,c1,rfl,l1,g1⟩,⟨A2,c2,rfl,l2,g2⟩⟩⟩
theorem k32_mkM(w:World)(base:Nat)(ok:Nat→Prop)(x:S32){v0:Value}(g0:(Kd.slice 53 k53).R 50 w base ok v0 x.f0){v1:Value}(g1:k60.R 60 w base ok v1 x.f1){v2:Value}(g2:Kd.bool.R 4 w base ok v2 x.f2):k32.M w base ok x [v0,v1,v2]:=⟨[v0],[v1,v2],rfl,⟨v0,rfl,g0⟩,⟨[v1],[v2],rfl,⟨v1,rfl,g1⟩,⟨v2,rfl,g2⟩⟩⟩
theorem k32_openF{W:World}{ok:Nat→Prop}{x:S32}{cs:List Value}(h:Kd.FK k32 W ok x cs):∃ A0 c0 A1 c1 A2 c2,cs=[.slice A0 x.f0.length c0,.slice A1 x.f1.length c1,.slice A2 x.f2.length c2]∧x.f0.length≤c0∧Kd.F (Kd.slice 53 k53) W ok A0 x.f0.length x.f0∧x.f1.length≤c1∧Kd.F k60 W ok A1 x.f1.length x.f1∧x.f2.length≤c2∧Kd.F Kd.bool W ok A2 x.f2.length x.f2:=by
 obtain⟨A0,c0,A1,c1,A2,c2,rfl,l0,_,l1,_,l2,_⟩:=k32_open (Kd.FK_now h);exact⟨A0,c0,A1,c1,A2,c2,rfl,l0,(fun W' hW=>by obtain⟨A0_,c0_,A1_,c1_,A2_,c2_,he,l0_,g0_,l1_,g1_,l2_,g2_⟩:=k32_open (h W' hW);injection (Option.some.inj (show some (Value.slice A0 x.f0.length c0)=some (Value.slice A0_ x.f0.length c0_) from congrArg (fun l=>l[0]?) he))with ha_ _ _;rw [ha_];exact g0_),l1,(fun W' hW=>by obtain⟨A0_,c0_,A1_,c1_,A2_,c2_,he,l0_,g0_,l1_,g1_,l2_,g2_⟩:=k32_open (h W' hW);injection (Option.some.inj (show some (Value.slice A1 x.f1.length c1)=some (Value.slice A1_ x.f1.length c1_) from congrArg (fun l=>l[1]?) he))with ha_ _ _;rw [ha_];exact g1_),l2,(fun W' hW=>by obtain⟨A0_,c0_,A1_,c1_,A2_,c2_,he,l0_,g0_,l1_,g1_,l2_,g2_⟩:=k32_open (h W' hW);injection (Option.some.inj (show some (Value.slice A2 x.f2.length c2)=some (Value.slice A2_ x.f2.length c2_) from congrArg (fun l=>l[2]?) he))with ha_ _ _;rw [ha_];exact g2_)⟩
theorem k32_mkF(W:World)(ok:Nat→Prop)(x:S32){A0:Option Addr}{c0:Nat}(l0:x.f0.length≤c0)(g0:Kd.F (Kd.slice 53 k53) W ok A0 x.f0.length x.f0){A1:Option Addr}{c1:Nat}(l1:x.f1.length≤c1)(g1:Kd.F k60 W ok A1 x.f1.length x.f1){A2:Option Addr}{c2:Nat}(l2:x.f2.length≤c2)(g2:Kd.F Kd.bool W ok A2 x.f2.length x.f2):Kd.FK k32 W ok x [.slice A0 x.f0.length c0,.slice A1 x.f1.length c1,.slice A2 x.f2.length c2]:=fun W2 hW=>k32_mk W2 x l0 (g0 W2 hW) l1 (g1 W2 hW) l2 (g2 W2 hW)
def rd_T32(xs:List S32)(i:Int):S32:=xs.getD i.toNat z32
theorem at_T32{w:World}{A:Option Addr}{n:Nat}{xs:List S32}(h:Kd.C k32 w A n xs)(i:Int)(h0:0≤i)(h1:i<n):∃ ad A0 c0 A1 c1 A2 c2,A=some ad∧w.cell? (ad.add (i.toNat*3))=some (.slice A0 (rd_T32 xs i).f0.length c0)∧w.cell? ⟨(ad.add (i.toNat*3)).block,(ad.add (i.toNat*3)).off+1,none⟩=some (.slice A1 (rd_T32 xs i).f1.length c1)∧w.cell? ⟨(ad.add (i.toNat*3)).block,(ad.add (i.toNat*3)).off+2,none⟩=some (.slice A2 (rd_T32 xs i).f2.length c2)∧(rd_T32 xs i).f0.length≤c0∧(Kd.slice 53 k53).C w A0 (rd_T32 xs i).f0.length (rd_T32 xs i).f0∧(rd_T32 xs i).f1.length≤c1∧k60.C w A1 (rd_T32 xs i).f1.length (rd_T32 xs i).f1∧(rd_T32 xs i).f2.length≤c2∧Kd.bool.C w A2 (rd_T32 xs i).f2.length (rd_T32 xs i).f2:=by
 obtain⟨ad,c,e,_,hK,hc0⟩:=Kd.C_get h z32 i h0 h1;have hc:∀ j u,c[j]?=some u→w.cell? (ad.add (i.toNat*3+j))=some u:=hc0;obtain⟨A0,c0,A1,c1,A2,c2,rfl,l0,g0,l1,g1,l2,g2⟩:=k32_open hK;exact⟨ad,A0,c0,A1,c1,A2,c2,e,hc 0 _ rfl,by rw [← add_field _ _ 1 (by omega)];exact hc 1 _ rfl,by rw [← add_field _ _ 2 (by omega)];exact hc 2 _ rfl,l0,g0,l1,g1,l2,g2⟩
structure S92 where
 f0:Int
 f1:Int
 f2:(List S53)
def z92:S92:=⟨(0:Int),(0:Int),([]:List S53)⟩
def k92:Kd S92:=Kd.iso (Kd.pair (Kd.int .i64) (Kd.pair (Kd.int .i64) (Kd.slice 53 k53))) (fun x:S92=>(x.f0,x.f1,x.f2))
theorem k92_open{w:World}{x:S92}{cs:List Value}(h:k92.K w x cs):∃ A2 c2,cs=[.int .i64 x.f0,.int .i64 x.f1,.slice A2 x.f2.length c2]∧x.f2.length≤c2∧k53.C w A2 x.f2.length x.f2:=by
 obtain⟨_,_,rfl,rfl,⟨_,_,rfl,rfl,⟨A2,c2,rfl,l2,g2⟩⟩⟩:=h;exact⟨A2,c2,rfl,l2,g2⟩
theorem k92_openM{w:World}{base:Nat}{ok:Nat→Prop}{x:S92}{cs:List Value}(h:k92.M w base ok x cs):∃ v2,cs=[.int .i64 x.f0,.int .i64 x.f1,v2]∧k53.R 53 w base ok v2 x.f2:=by
 obtain⟨_,_,rfl,rfl,⟨_,_,rfl,rfl,⟨v2,rfl,g2⟩⟩⟩:=h;exact⟨v2,rfl,g2⟩
theorem k92_mk(w:World)(x:S92){A2:Option Addr}{c2:Nat}(l2:x.f2.length≤c2)(g2:k53.C w A2 x.f2.length x.f2):k92.K w x [.int .i64 x.f0,.int .i64 x.f1,.slice A2 x.f2.length c2]:=⟨[.int .i64 x.f0],[.int .i64 x.f1,.slice A2 x.f2.length c2],rfl,rfl,⟨[.int .i64 x.f1],[.slice A2 x.f2.length c2],rfl,rfl,⟨A2,c2,rfl,l2,g2⟩⟩⟩
theorem k92_mkM(w:World)(base:Nat)(ok:Nat→Prop)(x:S92){v2:Value}(g2:k53.R 53 w base ok v2 x.f2):k92.M w base ok x [.int .i64 x.f0,.int .i64 x.f1,v2]:=⟨[.int .i64 x.f0],[.int .i64 x.f1,v2],rfl,rfl,⟨[.int .i64 x.f1],[v2],rfl,rfl,⟨v2,rfl,g2⟩⟩⟩
theorem k92_openF{W:World}{ok:Nat→Prop}{x:S92}{cs:List Value}(h:Kd.FK k92 W ok x cs):∃ A2 c2,cs=[.int .i64 x.f0,.int .i64 x.f1,.slice A2 x.f2.length c2]∧x.f2.length≤c2∧Kd.F k53 W ok A2 x.f2.length x.f2:=by
 obtain⟨A2,c2,rfl,l2,_⟩:=k92_open (Kd.FK_now h);exact⟨A2,c2,rfl,l2,(fun W' hW=>by obtain⟨A2_,c2_,he,l2_,g2_⟩:=k92_open (h W' hW);injection (Option.some.inj (show some (Value.slice A2 x.f2.length c2)=some (Value.slice A2_ x.f2.length c2_) from congrArg (fun l=>l[2]?) he))with ha_ _ _;rw [ha_];exact g2_)⟩
theorem k92_mkF(W:World)(ok:Nat→Prop)(x:S92){A2:Option Addr}{c2:Nat}(l2:x.f2.length≤c2)(g2:Kd.F k53 W ok A2 x.f2.length x.f2):Kd.FK k92 W ok x [.int .i64 x.f0,.int .i64 x.f1,.slice A2 x.f2.length c2]:=fun W2 hW=>k92_mk W2 x l2 (g2 W2 hW)
def rd_T92(xs:List S92)(i:Int):S92:=xs.getD i.toNat z92
theorem at_T92{w:World}{A:Option Addr}{n:Nat}{xs:List S92}(h:Kd.C k92 w A n xs)(i:Int)(h0:0≤i)(h1:i<n):∃ ad A2 c2,A=some ad∧w.cell? (ad.add (i.toNat*3))=some (.int .i64 (rd_T92 xs i).f0)∧w.cell? ⟨(ad.add (i.toNat*3)).block,(ad.add (i.toNat*3)).off+1,none⟩=some (.int .i64 (rd_T92 xs i).f1)∧w.cell? ⟨(ad.add (i.toNat*3)).block,(ad.add (i.toNat*3)).off+2,none⟩=some (.slice A2 (rd_T92 xs i).f2.length c2)∧(rd_T92 xs i).f2.length≤c2∧k53.C w A2 (rd_T92 xs i).f2.length (rd_T92 xs i).f2:=by
 obtain⟨ad,c,e,_,hK,hc0⟩:=Kd.C_get h z92 i h0 h1;have hc:∀ j u,c[j]?=some u→w.cell? (ad.add (i.toNat*3+j))=some u:=hc0;obtain⟨A2,c2,rfl,l2,g2⟩:=k92_open hK;exact⟨ad,A2,c2,e,hc 0 _ rfl,by rw [← add_field _ _ 1 (by omega)];exact hc 1 _ rfl,by rw [← add_field _ _ 2 (by omega)];exact hc 2 _ rfl,l2,g2⟩
def rd_L16(xs:List (List (List S82)))(i:Int):(List (List S82)):=xs.getD i.toNat ([]:List (List S82))
theorem at_L16{w:World}{A:Option Addr}{n:Nat}{xs:List (List (List S82))}(h:Kd.C (Kd.slice 48 (Kd.slice 82 k82)) w A n xs)(i:Int)(h0:0≤i)(h1:i<n):∃ ad A0 c0,A=some ad∧w.cell? (ad.add i.toNat)=some (.slice A0 (rd_L16 xs i).length c0)∧(rd_L16 xs i).length≤c0∧(Kd.slice 82 k82).C w A0 (rd_L16 xs i).length (rd_L16 xs i):=by
 obtain⟨ad,c,e,_,hK,hc0⟩:=Kd.C_get h ([]:List (List S82)) i h0 h1;have hc:∀ j u,c[j]?=some u→w.cell? (ad.add (i.toNat*1+j))=some u:=hc0;obtain⟨A0,c0,rfl,l0,g0⟩:=hK;exact⟨ad,A0,c0,e,by have hq:=hc 0 _ rfl;rwa [Nat.mul_one,Nat.add_zero]at hq,l0,g0⟩
def rd_L17(xs:List (List S68))(i:Int):(List S68):=xs.getD i.toNat ([]:List S68)
theorem at_L17{w:World}{A:Option Addr}{n:Nat}{xs:List (List S68)}(h:Kd.C (Kd.slice 68 k68) w A n xs)(i:Int)(h0:0≤i)(h1:i<n):∃ ad A0 c0,A=some ad∧w.cell? (ad.add i.toNat)=some (.slice A0 (rd_L17 xs i).length c0)∧(rd_L17 xs i).length≤c0∧k68.C w A0 (rd_L17 xs i).length (rd_L17 xs i):=by
 obtain⟨ad,c,e,_,hK,hc0⟩:=Kd.C_get h ([]:List S68) i h0 h1;have hc:∀ j u,c[j]?=some u→w.cell? (ad.add (i.toNat*1+j))=some u:=hc0;obtain⟨A0,c0,rfl,l0,g0⟩:=hK;exact⟨ad,A0,c0,e,by have hq:=hc 0 _ rfl;rwa [Nat.mul_one,Nat.add_zero]at hq,l0,g0⟩
structure S26 where
 f0:(List (List S82))
 f1:(List S68)
 f2:(List Bool)
def z26:S26:=⟨([]:List (List S82)),([]:List S68),([]:List Bool)⟩
def k26:Kd S26:=Kd.iso (Kd.pair (Kd.slice 48 (Kd.slice 82 k82)) (Kd.pair (Kd.slice 68 k68) (Kd.slice 4 Kd.bool))) (fun x:S26=>(x.f0,x.f1,x.f2))
theorem k26_open{w:World}{x:S26}{cs:List Value}(h:k26.K w x cs):∃ A0 c0 A1 c1 A2 c2,cs=[.slice A0 x.f0.length c0,.slice A1 x.f1.length c1,.slice A2 x.f2.length c2]∧x.f0.length≤c0∧(Kd.slice 82 k82).C w A0 x.f0.length x.f0∧x.f1.length≤c1∧k68.C w A1 x.f1.length x.f1∧x.f2.length≤c2∧Kd.bool.C w A2 x.f2.length x.f2:=by
 obtain⟨_,_,rfl,⟨A0,c0,rfl,l0,g0⟩,⟨_,_,rfl,⟨A1,c1,rfl,l1,g1⟩,⟨A2,c2,rfl,l2,g2⟩⟩⟩:=h;exact⟨A0,c0,A1,c1,A2,c2,rfl,l0,g0,l1,g1,l2,g2⟩
theorem k26_openM{w:World}{base:Nat}{ok:Nat→Prop}{x:S26}{cs:List Value}(h:k26.M w base ok x cs):∃ v0 v1 v2,cs=[v0,v1,v2]∧(Kd.slice 82 k82).R 48 w base ok v0 x.f0∧k68.R 68 w base ok v1 x.f1∧Kd.bool.R 4 w base ok v2 x.f2:=by
 obtain⟨_,_,rfl,⟨v0,rfl,g0⟩,⟨_,_,rfl,⟨v1,rfl,g1⟩,⟨v2,rfl,g2⟩⟩⟩:=h;exact⟨v0,v1,v2,rfl,g0,g1,g2⟩
theorem k26_mk(w:World)(x:S26){A0:Option Addr}{c0:Nat}(l0:x.f0.length≤c0)(g0:(Kd.slice 82 k82).C w A0 x.f0.length x.f0){A1:Option Addr}{c1:Nat}(l1:x.f1.length≤c1)(g1:k68.C w A1 x.f1.length x.f1){A2:Option Addr}{c2:Nat}(l2:x.f2.length≤c2)(g2:Kd.bool.C w A2 x.f2.length x.f2):k26.K w x [.slice A0 x.f0.length c0,.slice A1 x.f1.length c1,.slice A2 x.f2.length c2]:=⟨[.slice A0 x.f0.length c0],[.slice A1 x.f1.length c1,.slice A2 x.f2.length c2],rfl,⟨A0,c0,rfl,l0,g0⟩,⟨[.slice A1 x.f1.length c1],[.slice A2 x.f2.length c2],rfl,⟨A1,c1,rfl,l1,g1⟩,⟨A2,c2,rfl,l2,g2⟩⟩⟩
theorem k26_mkM(w:World)(base:Nat)(ok:Nat→Prop)(x:S26){v0:Value}(g0:(Kd.slice 82 k82).R 48 w base ok v0 x.f0){v1:Value}(g1:k68.R 68 w base ok v1 x.f1){v2:Value}(g2:Kd.bool.R 4 w base ok v2 x.f2):k26.M w base ok x [v0,v1,v2]:=⟨[v0],[v1,v2],rfl,⟨v0,rfl,g0⟩,⟨[v1],[v2],rfl,⟨v1,rfl,g1⟩,⟨v2,rfl,g2⟩⟩⟩
theorem k26_openF{W:World}{ok:Nat→Prop}{x:S26}{cs:List Value}(h:Kd.FK k26 W ok x cs):∃ A0 c0 A1 c1 A2 c2,cs=[.slice A0 x.f0.length c0,.slice A1 x.f1.length c1,.slice A2 x.f2.length c2]∧x.f0.length≤c0∧Kd.F (Kd.slice 82 k82) W ok A0 x.f0.length x.f0∧x.f1.length≤c1∧Kd.F k68 W ok A1 x.f1.length x.f1∧x.f2.length≤c2∧Kd.F Kd.bool W ok A2 x.f2.length x.f2:=by
 obtain⟨A0,c0,A1,c1,A2,c2,rfl,l0,_,l1,_,l2,_⟩:=k26_open (Kd.FK_now h);exact⟨A0,c0,A1,c1,A2,c2,rfl,l0,(fun W' hW=>by obtain⟨A0_,c0_,A1_,c1_,A2_,c2_,he,l0_,g0_,l1_,g1_,l2_,g2_⟩:=k26_open (h W' hW);injection (Option.some.inj (show some (Value.slice A0 x.f0.length c0)=some (Value.slice A0_ x.f0.length c0_) from congrArg (fun l=>l[0]?) he))with ha_ _ _;rw [ha_];exact g0_),l1,(fun W' hW=>by obtain⟨A0_,c0_,A1_,c1_,A2_,c2_,he,l0_,g0_,l1_,g1_,l2_,g2_⟩:=k26_open (h W' hW);injection (Option.some.inj (show some (Value.slice A1 x.f1.length c1)=some (Value.slice A1_ x.f1.length c1_) from congrArg (fun l=>l[1]?) he))with ha_ _ _;rw [ha_];exact g1_),l2,(fun W' hW=>by obtain⟨A0_,c0_,A1_,c1_,A2_,c2_,he,l0_,g0_,l1_,g1_,l2_,g2_⟩:=k26_open (h W' hW);injection (Option.some.inj (show some (Value.slice A2 x.f2.length c2)=some (Value.slice A2_ x.f2.length c2_) from congrArg (fun l=>l[2]?) he))with ha_ _ _;rw [ha_];exact g2_)⟩
theorem k26_mkF(W:World)(ok:Nat→Prop)(x:S26){A0:Option Addr}{c0:Nat}(l0:x.f0.length≤c0)(g0:Kd.F (Kd.slice 82 k82) W ok A0 x.f0.length x.f0){A1:Option Addr}{c1:Nat}(l1:x.f1.length≤c1)(g1:Kd.F k68 W ok A1 x.f1.length x.f1){A2:Option Addr}{c2:Nat}(l2:x.f2.length≤c2)(g2:Kd.F Kd.bool W ok A2 x.f2.length x.f2):Kd.FK k26 W ok x [.slice A0 x.f0.length c0,.slice A1 x.f1.length c1,.slice A2 x.f2.length c2]:=fun W2 hW=>k26_mk W2 x l0 (g0 W2 hW) l1 (g1 W2 hW) l2 (g2 W2 hW)
def rd_T26(xs:List S26)(i:Int):S26:=xs.getD i.toNat z26
theorem at_T26{w:World}{A:Option Addr}{n:Nat}{xs:List S26}(h:Kd.C k26 w A n xs)(i:Int)(h0:0≤i)(h1:i<n):∃ ad A0 c0 A1 c1 A2 c2,A=some ad∧w.cell? (ad.add (i.toNat*3))=some (.slice A0 (rd_T26 xs i).f0.length c0)∧w.cell? ⟨(ad.add (i.toNat*3)).block,(ad.add (i.toNat*3)).off+1,none⟩=some (.slice A1 (rd_T26 xs i).f1.length c1)∧w.cell? ⟨(ad.add (i.toNat*3)).block,(ad.add (i.toNat*3)).off+2,none⟩=some (.slice A2 (rd_T26 xs i).f2.length c2)∧(rd_T26 xs i).f0.length≤c0∧(Kd.slice 82 k82).C w A0 (rd_T26 xs i).f0.length (rd_T26 xs i).f0∧(rd_T26 xs i).f1.length≤c1∧k68.C w A1 (rd_T26 xs i).f1.length (rd_T26 xs i).f1∧(rd_T26 xs i).f2.length≤c2∧Kd.bool.C w A2 (rd_T26 xs i).f2.length (rd_T26 xs i).f2:=by
 obtain⟨ad,c,e,_,hK,hc0⟩:=Kd.C_get h z26 i h0 h1;have hc:∀ j u,c[j]?=some u→w.cell? (ad.add (i.toNat*3+j))=some u:=hc0;obtain⟨A0,c0,A1,c1,A2,c2,rfl,l0,g0,l1,g1,l2,g2⟩:=k26_open hK;exact⟨ad,A0,c0,A1,c1,A2,c2,e,hc 0 _ rfl,by rw [← add_field _ _ 1 (by omega)];exact hc 1 _ rfl,by rw [← add_field _ _ 2 (by omega)];exact hc 2 _ rfl,l0,g0,l1,g1,l2,g2⟩
def GL0(w:World):Prop:=w.cell? ⟨0,0,none⟩=some (.int .i64 1)∧w.cell? ⟨0,1,none⟩=some (.int .i64 0)∧w.cell? ⟨0,2,none⟩=some (.bool true)
theorem GL0.c0{w:World}(h:GL0 w):w.cell? ⟨0,0,none⟩=some (.int .i64 1):=h.1
theorem GL0.c1{w:World}(h:GL0 w):w.cell? ⟨0,1,none⟩=some (.int .i64 0):=h.2.1
theorem GL0.c2{w:World}(h:GL0 w):w.cell? ⟨0,2,none⟩=some (.bool true):=h.2.2
theorem GL0.below{w w':World}(h:GL0 w)(hb:Below w.heap.size w w'):GL0 w':=⟨(hb.cell (World.block_lt_of_cell? _ _ h.c0)).trans h.c0,(hb.cell (World.block_lt_of_cell? _ _ h.c1)).trans h.c1,(hb.cell (World.block_lt_of_cell? _ _ h.c2)).trans h.c2⟩
def GL1(w:World):Prop:=w.cell? ⟨1,0,none⟩=some (.int .i64 1)∧w.cell? ⟨1,1,none⟩=some (.int .i64 0)
theorem GL1.c0{w:World}(h:GL1 w):w.cell? ⟨1,0,none⟩=some (.int .i64 1):=h.1
theorem GL1.c1{w:World}(h:GL1 w):w.cell? ⟨1,1,none⟩=some (.int .i64 0):=h.2
theorem GL1.below{w w':World}(h:GL1 w)(hb:Below w.heap.size w w'):GL1 w':=⟨(hb.cell (World.block_lt_of_cell? _ _ h.c0)).trans h.c0,(hb.cell (World.block_lt_of_cell? _ _ h.c1)).trans h.c1⟩
end Go.Proofs.YtcdeojfeebmonaaDoor.Q
