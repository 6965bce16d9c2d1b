/- Plain laws over numbers, lists and texts, for the law FnExactSegLeq: no program in sight. -/
import Derived.Test.YtcdeojfeebmonaaDoorWLast
import Derived.Test.YtcdeojfeebmonaaDoorWMore
import Derived.Test.YtcdeojfeebmonaaDoorWWords
import Derived.Test.YtcdeojfeebmonaaDoorQOpen
import Derived.Test.YtcdeojfeebmonaaDoorQKinds
import Derived.Test.YtcdeojfeebmonaaDoorQx10
import Derived.Test.YtcdeojfeebmonaaDoorQx11
import Derived.Test.YtcdeojfeebmonaaDoorQx12
import Derived.Test.YtcdeojfeebmonaaDoorQx13
import Derived.Test.YtcdeojfeebmonaaDoorQx14
import Derived.Test.YtcdeojfeebmonaaDoorQx15
import Derived.Test.YtcdeojfeebmonaaDoorQx16
import Derived.Test.YtcdeojfeebmonaaDoorQx17
import Derived.Test.YtcdeojfeebmonaaDoorQx18
import Derived.Test.YtcdeojfeebmonaaDoorQx19
import Derived.Test.YtcdeojfeebmonaaDoorQx20
import Derived.Test.YtcdeojfeebmonaaDoorQx21
import Derived.Test.YtcdeojfeebmonaaDoorQx22
import Derived.Test.YtcdeojfeebmonaaDoorQx23
import Derived.Test.YtcdeojfeebmonaaDoorQx24
import Derived.Test.YtcdeojfeebmonaaDoorQXFnExactSegLeq
import Derived.Test.YtcdeojfeebmonaaDoorQx3
import Derived.Test.YtcdeojfeebmonaaDoorQx4
import Derived.Test.YtcdeojfeebmonaaDoorQx5
import Derived.Test.YtcdeojfeebmonaaDoorQx6
import Derived.Test.YtcdeojfeebmonaaDoorQx7
import Derived.Test.YtcdeojfeebmonaaDoorQx8
import Derived.Test.YtcdeojfeebmonaaDoorQx9
namespace Go.Proofs.YtcdeojfeebmonaaDoor.Q
open Go.RowKit Go.Proofs.YtcdeojfeebmonaaDoorW.PrintWords Go.Proofs.YtcdeojfeebmonaaDoorW.PrintLast Go.Proofs.YtcdeojfeebmonaaDoorW.PrintMore
open Go.Proofs.YtcdeojfeebmonaaDoor.Open
set_option linter.unusedSimpArgs false
set_option linter.unusedVariables false
theorem drop_cons{α:Type}{l:List α}{i:Nat}{x:α}{t:List α}(h:l.drop i=x :: t):i<l.length∧l[i]?=some x∧l.drop (i+1)=t:=by
  have h1:i<l.length:=by
    rcases Nat.lt_or_ge i l.length with h1|h1
    · exact h1
    · rw [List.drop_eq_nil_of_le h1]at h;simp at h
  refine⟨h1,?_,?_⟩
  · have:=congrArg (fun z=>z[0]?) h
    simpa using this
  · have:=congrArg List.tail h
    simpa using this
theorem drop_nil{α:Type}{l:List α}{i:Nat}(h:l.drop i=[]):l.length≤i:=by simpa using h
theorem w64{n:Int}(h1:-9223372036854775808≤n)(h2:n≤9223372036854775807):wrap64 n=n:=by unfold wrap64;omega
theorem w64s(i:Nat)(h:i<9223372036854775807):wrap64 ((i:Int)+1)=((i+1:Nat):Int):=by
  rw [w64 (by omega) (by omega)];omega
end Go.Proofs.YtcdeojfeebmonaaDoor.Q
namespace Go.Proofs.YtcdeojfeebmonaaDoor.Q
open Go.RowKit Go.Proofs.YtcdeojfeebmonaaDoorW.PrintWords Go.Proofs.YtcdeojfeebmonaaDoorW.PrintLast Go.Proofs.YtcdeojfeebmonaaDoorW.PrintMore
open Go.Proofs.YtcdeojfeebmonaaDoor.Open
set_option linter.unusedSimpArgs false
set_option linter.unusedVariables false
theorem copy_loop{α β:Type}(l:List α)(c:α→β)(K0:Nat)(F:Nat→List β→Int→Option (List β))
    (hs:∀ (k:Nat) (x3:List β) (i:Nat) (x:α),l[i]?=some x→x3.length=l.length→K0≤k→F (k+1) x3 (i:Int)=F k (x3.set i (c x)) ((i+1:Nat):Int))
    (he:∀ (k:Nat) (x3:List β),F (k+1) x3 (l.length:Int)=some x3) :
    ∀ (d i:Nat) (x3:List β) (k:Nat),i+d=l.length→x3.length=l.length→K0+d<k→F k x3 (i:Int)=some (x3.take i++(l.drop i).map c)
  |0,i,x3,k,h,hx,hk=>by
    obtain⟨k,rfl⟩:∃ m,k=m+1:=⟨k-1,by omega⟩
    obtain rfl:i=l.length:=by omega
    rw [he,List.take_of_length_le (by omega),List.drop_of_length_le (by omega)]
    simp
  |d+1,i,x3,k,h,hx,hk=>by
    obtain⟨k,rfl⟩:∃ m,k=m+1:=⟨k-1,by omega⟩
    have hi:i<l.length:=by omega
    rw [hs k x3 i l[i] (List.getElem?_eq_getElem hi) hx (by omega),copy_loop l c K0 F hs he d (i+1) _ k (by omega) (by rw [List.length_set];exact hx) (by omega)]
    rw [List.take_add_one,List.take_set_of_le (Nat.le_refl i),List.getElem?_set_self (by omega),List.drop_eq_getElem_cons hi,List.append_assoc]
    rfl
theorem copy_all{α β:Type}(l:List α)(c:α→β)(K0:Nat)(F:Nat→List β→Int→Option (List β))
    (hs:∀ (k:Nat) (x3:List β) (i:Nat) (x:α),l[i]?=some x→x3.length=l.length→K0≤k→F (k+1) x3 (i:Int)=F k (x3.set i (c x)) ((i+1:Nat):Int))
    (he:∀ (k:Nat) (x3:List β),F (k+1) x3 (l.length:Int)=some x3) (x3:List β) (hx:x3.length=l.length) (k:Nat) (hk:K0+l.length<k):F k x3 0=some (l.map c):=by
  have:=copy_loop l c K0 F hs he l.length 0 x3 k (by omega) hx hk
  simpa using this
theorem true_loop(n K0:Nat)(F:Nat→Int→Option Bool)(hs:∀ (k i:Nat),i<n→K0≤k→F (k+1) (i:Int)=F k ((i+1:Nat):Int))(he:∀ k,F (k+1) (n:Int)=some true) :
    ∀ (d i k:Nat),i+d=n→K0+d<k→F k (i:Int)=some true
  |0,i,k,h,hk=>by
    obtain⟨k,rfl⟩:∃ m,k=m+1:=⟨k-1,by omega⟩
    obtain rfl:i=n:=by omega
    exact he k
  |d+1,i,k,h,hk=>by
    obtain⟨k,rfl⟩:∃ m,k=m+1:=⟨k-1,by omega⟩
    rw [hs k i (by omega) (by omega)]
    exact true_loop n K0 F hs he d (i+1) k (by omega) (by omega)
theorem true_all(n K0:Nat)(F:Nat→Int→Option Bool)(hs:∀ (k i:Nat),i<n→K0≤k→F (k+1) (i:Int)=F k ((i+1:Nat):Int))(he:∀ k,F (k+1) (n:Int)=some true)(k:Nat)(hk:K0+n<k):F k 0=some true :=
  true_loop n K0 F hs he n 0 k (by omega) hk
end Go.Proofs.YtcdeojfeebmonaaDoor.Q
namespace Go.Proofs.YtcdeojfeebmonaaDoor.Q
open Go.RowKit Go.Proofs.YtcdeojfeebmonaaDoorW.PrintWords Go.Proofs.YtcdeojfeebmonaaDoorW.PrintLast Go.Proofs.YtcdeojfeebmonaaDoorW.PrintMore
open Go.Proofs.YtcdeojfeebmonaaDoor.Open
set_option linter.unusedSimpArgs false
set_option linter.unusedVariables false
abbrev LSym:=S82
abbrev ISym:=S53
abbrev LVal:=S68
abbrev IVal:=S60
def cSym(x:LSym):ISym:=⟨x.f0,x.f1⟩
def cVal(x:LVal):IVal:=⟨⟨x.f0.f0,x.f0.f1⟩,x.f1⟩
theorem rd_lsym{l:List LSym}{i:Nat}{x:LSym}(h:l[i]?=some x):rd_T82 l (i:Int)=x:=by
  unfold rd_T82;simp [List.getD,h]
theorem rd_isym{l:List ISym}{i:Nat}{x:ISym}(h:l[i]?=some x):rd_T53 l (i:Int)=x:=by
  unfold rd_T53;simp [List.getD,h]
theorem rd_lval{l:List LVal}{i:Nat}{x:LVal}(h:l[i]?=some x):rd_T68 l (i:Int)=x:=by
  unfold rd_T68;simp [List.getD,h]
theorem rd_ival{l:List IVal}{i:Nat}{x:IVal}(h:l[i]?=some x):rd_T60 l (i:Int)=x:=by
  unfold rd_T60;simp [List.getD,h]
theorem rd_lrow{l:List (List LSym)}{i:Nat}{x:List LSym}(h:l[i]?=some x):rd_L2 l (i:Int)=x:=by
  unfold rd_L2;simp [List.getD,h]
theorem rd_irow{l:List (List ISym)}{i:Nat}{x:List ISym}(h:l[i]?=some x):rd_L7 l (i:Int)=x:=by
  unfold rd_L7;simp [List.getD,h]
theorem rd_flag{l:List Bool}{i:Nat}{x:Bool}(h:l[i]?=some x):rdOf false l (i:Int)=x:=by
  unfold rdOf;simp [List.getD,h]
theorem lt_of_get{α:Type}{l:List α}{i:Nat}{x:α}(h:l[i]?=some x):i<l.length:=(List.getElem?_eq_some_iff.1 h).1
theorem to_symS(l:List LSym)(hn:l.length≤1048576)(k:Nat)(hk:l.length<k):laws_toSymS.f k l=some (l.map cSym):=by
  rw [laws_toSymS.f,if_pos (by omega),if_pos (by omega)]
  refine copy_all l cSym 0 (fun k x3 i=>laws_toSymS.l0 k l x3 i) (fun k x3 i x h hx _=>?_) (fun k x3=>?_) _ (by simp) k (by omega)
  · have hi:=lt_of_get h
    show laws_toSymS.l0 (k+1) l x3 (i:Int)=_
    rw [laws_toSymS.l0,if_pos (by omega),if_pos (by omega),rd_lsym h,laws_toSym.f,Option.bind_some,if_pos (by omega),w64s i (by omega),Int.toNat_natCast];rfl
  · show laws_toSymS.l0 (k+1) l x3 (l.length:Int)=_
    rw [laws_toSymS.l0,if_neg (by omega)]
theorem to_symSS(l:List (List LSym))(hn:l.length≤1048576)(hr:∀ r∈l,r.length≤1048576)(k:Nat)(hk:1048577+l.length<k):laws_toSymSS.f k l=some (l.map (·.map cSym)):=by
  rw [laws_toSymSS.f,if_pos (by omega),if_pos (by omega)]
  refine copy_all l (·.map cSym) 1048577 (fun k x3 i=>laws_toSymSS.l0 k l x3 i) (fun k x3 i x h hx hk=>?_) (fun k x3=>?_) _ (by simp) k (by omega)
  · have hi:=lt_of_get h
    show laws_toSymSS.l0 (k+1) l x3 (i:Int)=_
    have hm:=hr x (List.mem_of_getElem? h)
    rw [laws_toSymSS.l0,if_pos (by omega),if_pos (by omega),rd_lrow h,to_symS x hm k (by omega),Option.bind_some,if_pos (by omega),w64s i (by omega),Int.toNat_natCast]
  · show laws_toSymSS.l0 (k+1) l x3 (l.length:Int)=_
    rw [laws_toSymSS.l0,if_neg (by omega)]
theorem to_valS(l:List LVal)(hn:l.length≤1048576)(k:Nat)(hk:l.length<k):laws_toValS.f k l=some (l.map cVal):=by
  rw [laws_toValS.f,if_pos (by omega),if_pos (by omega)]
  refine copy_all l cVal 0 (fun k x3 i=>laws_toValS.l0 k l x3 i) (fun k x3 i x h hx _=>?_) (fun k x3=>?_) _ (by simp) k (by omega)
  · have hi:=lt_of_get h
    show laws_toValS.l0 (k+1) l x3 (i:Int)=_
    rw [laws_toValS.l0,if_pos (by omega),if_pos (by omega),rd_lval h,laws_toVal.f,laws_toRange.f,Option.bind_some,Option.bind_some,if_pos (by omega),w64s i (by omega),Int.toNat_natCast];rfl
  · show laws_toValS.l0 (k+1) l x3 (l.length:Int)=_
    rw [laws_toValS.l0,if_neg (by omega)]
theorem to_boolS(l:List Bool)(hn:l.length≤1048576)(k:Nat)(hk:l.length<k):laws_toBoolS.f k l=some l:=by
  rw [laws_toBoolS.f,if_pos (by omega),if_pos (by omega)]
  have:=copy_all l (fun b=>b) 0 (fun k x3 i=>laws_toBoolS.l0 k l x3 i) (fun k x3 i x h hx _=>?_) (fun k x3=>?_) (List.replicate ((l.length:Int):Int).toNat false) (by simp) k (by omega)
  · rw [List.map_id']at this;exact this
  · have hi:=lt_of_get h
    show laws_toBoolS.l0 (k+1) l x3 (i:Int)=_
    rw [laws_toBoolS.l0,if_pos (by omega),if_pos (by omega),rd_flag h,if_pos (by omega),w64s i (by omega),Int.toNat_natCast]
  · show laws_toBoolS.l0 (k+1) l x3 (l.length:Int)=_
    rw [laws_toBoolS.l0,if_neg (by omega)]
theorem eq_symS(l:List ISym)(hn:l.length≤1048576)(k:Nat)(hk:l.length<k):laws_eqSymS.f k l l=some true:=by
  rw [laws_eqSymS.f,if_pos rfl]
  refine true_all l.length 0 (fun k i=>laws_eqSymS.l0 k l l i) (fun k i hi _=>?_) (fun k=>?_) k (by omega)
  · show laws_eqSymS.l0 (k+1) l l (i:Int)=_
    rw [laws_eqSymS.l0,if_pos (by omega),if_pos (by omega),if_pos (by omega),laws_eqSym.f,if_pos rfl,if_pos rfl,Option.bind_some,if_pos rfl,w64s i (by omega)]
  · show laws_eqSymS.l0 (k+1) l l (l.length:Int)=_
    rw [laws_eqSymS.l0,if_neg (by omega)]
theorem eq_symSS(l:List (List ISym))(hn:l.length≤1048576)(hr:∀ r∈l,r.length≤1048576)(k:Nat)(hk:1048577+l.length<k):laws_eqSymSS.f k l l=some true:=by
  rw [laws_eqSymSS.f,if_pos rfl]
  refine true_all l.length 1048577 (fun k i=>laws_eqSymSS.l0 k l l i) (fun k i hi hk=>?_) (fun k=>?_) k (by omega)
  · show laws_eqSymSS.l0 (k+1) l l (i:Int)=_
    have h:l[i]?=some l[i]:=List.getElem?_eq_getElem hi
    have hm:=hr l[i] (List.getElem_mem hi)
    rw [laws_eqSymSS.l0,if_pos (by omega),if_pos (by omega),if_pos (by omega),rd_irow h,eq_symS _ hm k (by omega),Option.bind_some,if_pos rfl,w64s i (by omega)]
  · show laws_eqSymSS.l0 (k+1) l l (l.length:Int)=_
    rw [laws_eqSymSS.l0,if_neg (by omega)]
theorem eq_valS(l:List IVal)(hn:l.length≤1048576)(k:Nat)(hk:l.length<k):laws_eqValS.f k l l=some true:=by
  rw [laws_eqValS.f,if_pos rfl]
  refine true_all l.length 0 (fun k i=>laws_eqValS.l0 k l l i) (fun k i hi _=>?_) (fun k=>?_) k (by omega)
  · show laws_eqValS.l0 (k+1) l l (i:Int)=_
    rw [laws_eqValS.l0,if_pos (by omega),if_pos (by omega),if_pos (by omega),laws_eqVal.f,laws_eqRange.f,if_pos rfl,if_pos rfl,Option.bind_some,if_pos rfl,if_neg (by simp),Option.bind_some,if_pos rfl,w64s i (by omega)]
  · show laws_eqValS.l0 (k+1) l l (l.length:Int)=_
    rw [laws_eqValS.l0,if_neg (by omega)]
theorem eq_boolS(l:List Bool)(hn:l.length≤1048576)(k:Nat)(hk:l.length<k):laws_eqBoolS.f k l l=some true:=by
  rw [laws_eqBoolS.f,if_pos rfl]
  refine true_all l.length 0 (fun k i=>laws_eqBoolS.l0 k l l i) (fun k i hi _=>?_) (fun k=>?_) k (by omega)
  · show laws_eqBoolS.l0 (k+1) l l (i:Int)=_
    rw [laws_eqBoolS.l0,if_pos (by omega),if_pos (by omega),if_pos (by omega),if_neg (by simp),w64s i (by omega)]
  · show laws_eqBoolS.l0 (k+1) l l (l.length:Int)=_
    rw [laws_eqBoolS.l0,if_neg (by omega)]
structure SmallS (b:List (List ISym)) (v:List IVal) (m:List Bool):Prop where
  rows:b.length≤1048576
  each:∀ r∈b,r.length≤1048576
  vals:v.length≤1048576
  flags:m.length≤1048576
theorem eq_seg{b:List (List ISym)}{v:List IVal}{m:List Bool}(h:SmallS b v m)(k:Nat)(hk:2097160<k):laws_eqSeg.f k b v m b v m=some true:=by
  have h1:=h.rows
  have h3:=h.vals
  have h4:=h.flags
  rw [laws_eqSeg.f,eq_symSS b h1 h.each k (by omega),Option.bind_some,if_pos rfl,eq_valS v h3 k (by omega),Option.bind_some,if_pos rfl,eq_boolS m h4 k (by omega),Option.bind_some,if_pos rfl]
theorem sz_symSS(l:List (List LSym))(hn:l.length≤1048576)(hr:∀ r∈l,r.length≤9223372036854775807):∀ (d i k:Nat) (left:Int),i+d=l.length→0≤left→left≤1048576→d<k →
    ∃ r,laws_szSymSS.l0 k l left (i:Int)=some r∧r≤left∧(0≤r→∀ x∈l.drop i,x.length≤1048576)
  |0,i,k,left,h,h0,h1,hk=>by
    obtain⟨k,rfl⟩:∃ m,k=m+1:=⟨k-1,by omega⟩
    refine⟨left,by rw [laws_szSymSS.l0,if_neg (by omega)],Int.le_refl _,fun _ x hx=>?_⟩
    rw [List.drop_of_length_le (by omega)]at hx;cases hx
  |d+1,i,k,left,h,h0,h1,hk=>by
    obtain⟨k,rfl⟩:∃ m,k=m+1:=⟨k-1,by omega⟩
    have hi:i<l.length:=by omega
    have hm:=hr l[i] (List.getElem_mem hi)
    have hg:l[i]?=some l[i]:=List.getElem?_eq_getElem hi
    have e:wrap64 (left-(l[i].length:Int))=left-(l[i].length:Int):=w64 (by omega) (by omega)
    by_cases hl:left-(l[i].length:Int)<0
    · exact⟨-1,by rw [laws_szSymSS.l0,if_pos (by omega),if_pos (by omega),rd_lrow hg,laws_szSymS.f,e,if_pos hl,Option.bind_some,if_pos (by decide)],by omega,fun h=>by omega⟩
    · obtain⟨r,q1,q2,q3⟩:=sz_symSS l hn hr d (i+1) k (left-(l[i].length:Int)) (by omega) (by omega) (by omega) (by omega)
      refine⟨r,by rw [laws_szSymSS.l0,if_pos (by omega),if_pos (by omega),rd_lrow hg,laws_szSymS.f,e,if_neg hl,Option.bind_some,if_neg hl,w64s i (by omega)];exact q1,by omega,fun hr0 x hx=>?_⟩
      rw [List.drop_eq_getElem_cons hi]at hx
      rcases List.mem_cons.1 hx with rfl|hx
      · omega
      · exact q3 hr0 x hx
theorem to_seg(b:List (List LSym))(v:List LVal)(m:List Bool)(h1:b.length≤1048576)(h2:∀ x∈b,x.length≤1048576)(h3:v.length≤1048576)(h4:m.length≤1048576)(k:Nat)(hk:2097160<k) :
    laws_toSeg.f k b v m=some (b.map (·.map cSym),v.map cVal,m):=by
  rw [laws_toSeg.f,to_symSS b h1 h2 k (by omega),Option.bind_some,to_valS v h3 k (by omega),Option.bind_some,to_boolS m h4 k (by omega),Option.bind_some]
theorem smallS(b:List (List LSym))(v:List LVal)(m:List Bool)(h1:b.length≤1048576)(h2:∀ x∈b,x.length≤1048576)(h3:v.length≤1048576)(h4:m.length≤1048576):SmallS (b.map (·.map cSym)) (v.map cVal) m :=
  ⟨by simpa using h1,fun r hr=>by obtain⟨x,hx,rfl⟩:=List.mem_map.1 hr;simpa using h2 x hx,by simpa using h3,h4⟩
end Go.Proofs.YtcdeojfeebmonaaDoor.Q
namespace Go.Proofs.YtcdeojfeebmonaaDoor.Q
open Go.RowKit Go.Proofs.YtcdeojfeebmonaaDoorW.PrintWords Go.Proofs.YtcdeojfeebmonaaDoorW.PrintLast Go.Proofs.YtcdeojfeebmonaaDoorW.PrintMore
open Go.Proofs.YtcdeojfeebmonaaDoor.Open
set_option linter.unusedSimpArgs false
set_option linter.unusedVariables false
def okR(lo hi:Int):Bool:=(lo == 1&&hi == 0)||(decide (-1000000≤lo)&&decide (hi≤1000000)&&decide (lo≤hi))
theorem okR_iff(lo hi:Int):okR lo hi=true↔(lo=1∧hi=0)∨(-1000000≤lo∧hi≤1000000∧lo≤hi):=by
  simp [okR,and_assoc]
theorem inR(a b c:Int):impl_inRange.f a b c=some (decide (b≤a)&&decide (a≤c)):=by
  unfold impl_inRange.f
  by_cases h:b≤a<;>simp [h]
theorem btw(a b c:Int):spec_l01Between.f a b c=some (decide (b≤a)&&decide (a≤c)):=by
  unfold spec_l01Between.f
  by_cases h:b≤a<;>simp [h]
theorem i_val(a:Int):impl_isVal.f a=some (decide (-1000000≤a)&&decide (a≤1000000)):=by
  unfold impl_isVal.f
  rw [inR];rfl
theorem s_val(a:Int):spec_l05Val.f a=some (decide (-1000000≤a)&&decide (a≤1000000)):=by
  unfold spec_l05Val.f
  rw [btw];rfl
theorem i_ok(a b:Int):impl_RangeOk.f a b=some (okR a b):=by
  unfold impl_RangeOk.f
  simp only [i_val,Option.bind_some]
  by_cases h:(a == 1&&b == 0)=true
  · rw [if_pos h];simp [okR,h]
  · rw [if_neg h]
    have e:okR a b=(decide (-1000000≤a)&&decide (b≤1000000)&&decide (a≤b)):=by
      unfold okR
      rw [Bool.eq_false_iff.mpr h];rfl
    rw [e]
    (repeat' split)<;>simp_all<;>omega
theorem s_is(a b:Int):spec_l06Is.f a b=some (decide (a≤b)):=rfl
theorem s_ok(a b:Int):spec_RangeOk.f a b=some (okR a b):=by
  rw [← i_ok]
  unfold spec_RangeOk.f impl_RangeOk.f
  simp only [s_is,s_val,i_val,Option.bind_some]
  by_cases h1:a=1
  · by_cases h2:b=0
    · simp [h1,h2]
    · simp only [h1,h2,if_true,if_false]
      (repeat' split)<;>simp_all<;>omega
  · simp only [h1,if_false]
    (repeat' split)<;>simp_all<;>omega
def leqR(a b c d:Int):Bool:=okR a b&&okR c d&&(decide (b<a)||(decide (c≤a)&&decide (b≤d)))
theorem s_leq(a b c d:Int):spec_RangeLeq.f a b c d=some (leqR a b c d):=by
  unfold spec_RangeLeq.f leqR
  simp only [s_ok,s_is,Option.bind_some]
  grind
theorem i_leq(a b c d:Int):impl_RangeLeq.f a b c d=some (leqR a b c d):=by
  unfold impl_RangeLeq.f leqR
  simp only [i_ok,Option.bind_some]
  by_cases h1:okR a b=true
  · rcases (okR_iff a b).1 h1 with⟨rfl,rfl⟩|⟨p1,p2,p3⟩
    · simp [h1];cases okR c d<;>rfl
    · by_cases h2:okR c d=true
      · have q:¬(a == 1&&b == 0)=true:=by simp;omega
        have q2:decide (b<a)=false:=decide_eq_false (by omega)
        simp only [h1,h2,if_true,if_neg q,q2]
        rcases (okR_iff c d).1 h2 with⟨rfl,rfl⟩|⟨p4,p5,p6⟩
        · simp;omega
        · have:(!c == 1 || !d == 0)=true:=by simp;omega
          rw [if_pos this]
          grind
      · simp [h1,h2]
  · simp [h1]
def mkR(lo hi:Int):Int×Int:=if mx lo (-1000000) > mn hi 1000000 then(1,0)else(mx lo (-1000000),mn hi 1000000)
theorem mkR_in{lo hi:Int}(h1:-1000000≤lo)(h2:hi≤1000000)(h3:lo≤hi):mkR lo hi=(lo,hi):=by
  unfold mkR mx mn
  (repeat' split)<;>first|omega|(simp;omega)|simp_all
end Go.Proofs.YtcdeojfeebmonaaDoor.Q
namespace Go.Proofs.YtcdeojfeebmonaaDoor.Q
open Go.RowKit Go.Proofs.YtcdeojfeebmonaaDoorW.PrintWords Go.Proofs.YtcdeojfeebmonaaDoorW.PrintLast Go.Proofs.YtcdeojfeebmonaaDoorW.PrintMore
open Go.Proofs.YtcdeojfeebmonaaDoor.Open
set_option linter.unusedSimpArgs false
set_option linter.unusedVariables false
theorem i_vok(a b:Int)(c:Bool):impl_ValOk.f a b c=some (okR a b):=by unfold impl_ValOk.f;rw [i_ok];rfl
theorem s_vok(a b:Int)(c:Bool):spec_ValOk.f a b c=some (okR a b):=by unfold spec_ValOk.f;rw [s_ok];rfl
theorem leqR_ok{a b c d:Int}(h:leqR a b c d=true):okR a b=true∧okR c d=true:=by
  unfold leqR at h;grind
theorem i_vleq(a b:Int)(s:Bool)(c d:Int)(t:Bool):impl_ValLeq.f a b s c d t=some (leqR a b c d&&(s || !t)):=by
  unfold impl_ValLeq.f
  simp only [i_leq,Option.bind_some]
  (repeat' split)<;>simp_all
theorem s_vleq(a b:Int)(s:Bool)(c d:Int)(t:Bool):spec_ValLeq.f a b s c d t=some (leqR a b c d&&(s || !t)):=by
  unfold spec_ValLeq.f
  simp only [s_vok,s_leq,Option.bind_some]
  by_cases h:leqR a b c d=true
  · obtain⟨h1,h2⟩:=leqR_ok h
    simp only [h1,h2,h,if_true,Bool.true_and]
    cases s<;>simp
  · simp only [Bool.not_eq_true]at h
    simp only [h,Bool.false_and]
    (repeat' split)<;>simp_all
end Go.Proofs.YtcdeojfeebmonaaDoor.Q
namespace Go.Proofs.YtcdeojfeebmonaaDoor.Q
open Go.RowKit Go.Proofs.YtcdeojfeebmonaaDoorW.PrintWords Go.Proofs.YtcdeojfeebmonaaDoorW.PrintLast Go.Proofs.YtcdeojfeebmonaaDoorW.PrintMore
open Go.Proofs.YtcdeojfeebmonaaDoor.Open
set_option linter.unusedSimpArgs false
set_option linter.unusedVariables false
def isSym(x:ISym)(a b:Int):Bool:=x.f0 == a&&x.f1 == b
def hasS(l:List ISym)(a b:Int):Bool:=l.any fun x=>isSym x a b
theorem isSym_iff{x:ISym}{a b:Int}:isSym x a b=true↔x=⟨a,b⟩:=by
  cases x;unfold isSym;simp
theorem hasS_iff{l:List ISym}{a b:Int}:hasS l a b=true↔(⟨a,b⟩:ISym)∈l:=by
  unfold hasS
  rw [List.any_eq_true]
  constructor
  · rintro ⟨x,hx,h⟩;rw [isSym_iff]at h;subst h;exact hx
  · intro h;exact⟨_,h,isSym_iff.2 rfl⟩
def findS(l:List ISym)(a b:Int)(i:Nat):Int:=match l with | []=>-1|x :: t=>if isSym x a b=true then(i:Int)else findS t a b (i+1)
theorem findS_has(a b:Int):∀ (l:List ISym) (i:Nat),(decide (findS l a b i≥0))=hasS l a b
  | [],i=>by unfold findS hasS;rfl
  |x :: t,i=>by
    unfold findS hasS
    rw [List.any_cons]
    by_cases h:isSym x a b=true
    · rw [if_pos h,h,Bool.true_or];exact decide_eq_true (by omega)
    · rw [if_neg h,findS_has a b t (i+1)]
      simp only [Bool.not_eq_true]at h
      rw [h,Bool.false_or];rfl
theorem s_find(l:List ISym)(hn:l.length≤100000000000)(a b:Int):∀ (t:List ISym) (i k:Nat),l.drop i=t→t.length<k→spec_l10Find.l0 k l (i:Int) a b=some (findS t a b i)
  | [],i,k,h,hk=>by
    have h2:=drop_nil h
    obtain⟨k,rfl⟩:∃ m,k=m+1:=⟨k-1,by simp at hk;omega⟩
    rw [spec_l10Find.l0,if_neg (by omega)];rfl
  |x :: t,i,k,h,hk=>by
    haveI:Inhabited ISym:=⟨x⟩
    obtain⟨h2,h3,h4⟩:=drop_cons h
    obtain⟨k,rfl⟩:∃ m,k=m+1:=⟨k-1,by simp at hk;omega⟩
    rw [spec_l10Find.l0,if_pos (by omega),if_pos (by omega),rd_isym h3,w64s i (by omega),s_find l hn a b t (i+1) k h4 (by simp at hk;omega),findS]
    unfold isSym
    split<;>rfl
theorem i_find(l:List ISym)(hn:l.length≤100000000000)(a b:Int):∀ (t:List ISym) (i k:Nat),l.drop i=t→t.length<k→impl_Sym_69.l0 k l (l.length:Int) (i:Int) a b=some (findS t a b i)
  | [],i,k,h,hk=>by
    have h2:=drop_nil h
    obtain⟨k,rfl⟩:∃ m,k=m+1:=⟨k-1,by simp at hk;omega⟩
    rw [impl_Sym_69.l0,if_neg (by omega)];rfl
  |x :: t,i,k,h,hk=>by
    haveI:Inhabited ISym:=⟨x⟩
    obtain⟨h2,h3,h4⟩:=drop_cons h
    obtain⟨k,rfl⟩:∃ m,k=m+1:=⟨k-1,by simp at hk;omega⟩
    rw [impl_Sym_69.l0,if_pos (by omega),if_pos (by omega),if_pos (by omega),rd_isym h3,w64s i (by omega),i_find l hn a b t (i+1) k h4 (by simp at hk;omega),findS]
    have e:(a == x.f0&&(b == x.f1))=isSym x a b:=by unfold isSym;rw [Bool.beq_comm,Bool.beq_comm (a:=b)]
    rw [e]
    split<;>rfl
theorem i_contains(l:List ISym)(hn:l.length≤100000000000)(a b:Int)(k:Nat)(hk:l.length<k):impl_Sym_53.f k l a b=some (hasS l a b):=by
  rw [impl_Sym_53.f,impl_Sym_69.f]
  have:=i_find l hn a b l 0 k rfl hk
  rw [show((0:Nat):Int)=0 from rfl]at this
  rw [this,Option.bind_some,findS_has]
def inS(b:List (List ISym))(x y:Int)(i:Nat):Int:=match b with | []=>-1|r :: t=>if hasS r x y=true then(i:Int)else inS t x y (i+1)
theorem s_in_l(b:List (List ISym))(v:List IVal)(m:List Bool)(h:SmallS b v m)(x y:Int):∀ (t:List (List ISym)) (i k:Nat),b.drop i=t→1048600+t.length<k→spec_l10In.l0 k (i:Int) b v m x y=some (inS t x y i)
  | [],i,k,hd,hk=>by
    have h2:=drop_nil hd
    obtain⟨k,rfl⟩:∃ m,k=m+1:=⟨k-1,by simp at hk;omega⟩
    rw [spec_l10In.l0,if_neg (by omega)];rfl
  |r :: t,i,k,hd,hk=>by
    obtain⟨h2,h3,h4⟩:=drop_cons hd
    have hn:=h.rows
    have hr:=h.each r (List.mem_of_getElem? h3)
    obtain⟨k,rfl⟩:∃ m,k=m+1:=⟨k-1,by simp at hk;omega⟩
    simp only [List.length_cons]at hk
    have hf:=s_find r (by omega) x y r 0 k rfl (by omega)
    rw [show((0:Nat):Int)=0 from rfl]at hf
    rw [spec_l10In.l0,if_pos (by omega),if_pos (by omega),rd_irow h3,spec_l10Find.f,hf,Option.bind_some,w64s i (by omega),s_in_l b v m h x y t (i+1) k h4 (by omega),inS]
    have hh:=findS_has x y r 0
    by_cases hp:findS r x y 0≥0
    · rw [decide_eq_true hp]at hh
      rw [if_pos hp,← hh,if_pos rfl]
    · rw [decide_eq_false hp]at hh
      rw [if_neg hp,← hh,if_neg (by decide)]
theorem s_in{b:List (List ISym)}{v:List IVal}{m:List Bool}(h:SmallS b v m)(x y:Int)(k:Nat)(hk:2097180<k):spec_l10In.f k b v m x y=some (inS b x y 0):=by
  have hn:=h.rows
  rw [spec_l10In.f]
  exact s_in_l b v m h x y b 0 k rfl (by omega)
theorem inS_at(x y:Int):∀ (pre:List (List ISym)) (r:List ISym) (suf:List (List ISym)) (i:Nat),hasS r x y=true→(inS (pre++r :: suf) x y i=((i+pre.length:Nat):Int)↔hasS pre.flatten x y=false)
  | [],r,suf,i,h=>by
    rw [List.nil_append,inS,if_pos h]
    simp [hasS]
  |p :: pre,r,suf,i,h=>by
    rw [List.cons_append,inS,List.flatten_cons]
    have e:hasS (p++pre.flatten) x y=(hasS p x y||hasS pre.flatten x y):=by unfold hasS;rw [List.any_append]
    rw [e]
    by_cases hp:hasS p x y=true
    · rw [if_pos hp,hp]
      simp;omega
    · rw [if_neg hp]
      simp only [Bool.not_eq_true]at hp
      rw [hp,Bool.false_or,List.length_cons,show i+(pre.length+1)=i+1+pre.length by omega]
      exact inS_at x y pre r suf (i+1) h
theorem inS_ge(x y:Int):∀ (b:List (List ISym)) (i:Nat),inS b x y i=-1∨(i:Int)≤inS b x y i
  | [],_=>.inl rfl
  |r :: t,i=>by
    rw [inS]
    split
    · right;omega
    · rcases inS_ge x y t (i+1)with h|h
      · exact .inl h
      · right;omega
theorem inS_last(x y:Int):∀ (pre:List (List ISym)) (r:List ISym) (i:Nat),inS (pre++[r]) x y i=((i+pre.length:Nat):Int)↔hasS pre.flatten x y=false∧hasS r x y=true
  |pre,r,i=>by
    by_cases h:hasS r x y=true
    · rw [inS_at x y pre r [] i h];simp [h]
    · simp only [Bool.not_eq_true]at h
      rw [h]
      constructor
      · intro e
        exfalso
        have none:∀ (p:List (List ISym)) (j:Nat),inS (p++[r]) x y j≠((j+p.length:Nat):Int):=by
          intro p
          induction p with
          |nil=>intro j;rw [List.nil_append,inS,if_neg (by rw [h];decide),inS];first|(simp;done)|(simp;omega)
          |cons q p ih =>
            intro j
            rw [List.cons_append,inS]
            split
            · first|(simp;done)|(simp;omega)
            · have:=ih (j+1)
              rw [List.length_cons,show j+(p.length+1)=j+1+p.length by omega]
              exact this
        exact none pre i e
      · rintro ⟨_,e⟩;cases e
theorem inS_first(x y:Int)(r:List ISym)(t:List (List ISym)):inS (r :: t) x y 0=0↔hasS r x y=true:=by
  rw [inS]
  by_cases h:hasS r x y=true
  · rw [if_pos h,h];simp
  · rw [if_neg h]
    simp only [Bool.not_eq_true]at h
    rw [h]
    constructor
    · intro e
      exfalso
      rw [Nat.zero_add]at e
      rcases inS_ge x y t 1 with h1|h1<;>omega
    · intro e;cases e
def symB(size:Int)(x:ISym):Bool:=(decide (1≤size)&&decide (size≤13))&&(decide (0≤x.f0)&&decide (x.f0≤wrap64 (size-1)))&&(decide (-1000≤x.f1)&&decide (x.f1≤1000))
def lessB(x y:ISym):Bool:=decide (x.f0<y.f0)||(decide (x.f0=y.f0)&&decide (x.f1<y.f1))
theorem s_symB(size:Int)(x:ISym):spec_SymOk.f size x.f0 x.f1=some (symB size x):=by
  unfold spec_SymOk.f symB
  rw [btw,Option.bind_some,btw,btw]
  cases (decide (1≤size)&&decide (size≤13))<;>cases (decide (0≤x.f0)&&decide (x.f0≤wrap64 (size-1)))<;>rfl
theorem i_symB(size:Int)(x:ISym):impl_SymOk.f size x.f0 x.f1=some (symB size x):=by
  unfold impl_SymOk.f symB impl_isPlace.f
  rw [inR,Option.bind_some,inR,inR]
  cases (decide (1≤size)&&decide (size≤13))<;>cases (decide (0≤x.f0)&&decide (x.f0≤wrap64 (size-1)))<;>rfl
theorem s_lessB(x y:ISym):spec_SymLess.f x.f0 x.f1 y.f0 y.f1=some (lessB x y):=by
  unfold spec_SymLess.f lessB
  by_cases h:x.f0<y.f0
  · rw [if_pos h,decide_eq_true h,Bool.true_or]
  · rw [if_neg h,decide_eq_false h,Bool.false_or]
    by_cases h2:x.f0=y.f0
    · rw [if_pos h2,decide_eq_true h2,Bool.true_and]
    · rw [if_neg h2,decide_eq_false h2,Bool.false_and]
theorem i_lessB(x y:ISym):impl_SymLess.f x.f0 x.f1 y.f0 y.f1=some (lessB x y):=by
  unfold impl_SymLess.f lessB
  by_cases h:x.f0<y.f0
  · rw [if_pos h,decide_eq_true h,Bool.true_or]
  · rw [if_neg h,decide_eq_false h,Bool.false_or]
    by_cases h2:x.f0=y.f0
    · rw [if_pos h2,decide_eq_true h2,Bool.true_and]
    · rw [if_neg h2,decide_eq_false h2,Bool.false_and]
def prevOk:Option ISym→ISym→Bool
  |none,_=>true
  |some y,x=>lessB y x
def termsB(size:Int)(all:List ISym):Option ISym→List ISym→Bool
  |_,[]=>true
  |p,x :: t=>symB size x&&prevOk p x && !hasS all x.f0 x.f1&&termsB size all (some x) t
def boundsB(size:Int):List ISym→List (List ISym)→Bool
  |_,[]=>true
  |all,r :: t=>decide (r≠[])&&decide ((all++r).length≤40)&&termsB size all none r&&boundsB size (all++r) t
def prevS(r:List ISym)(i:Nat):Option ISym:=if i=0 then none else r[i-1]?
theorem prevS_zero(r:List ISym):prevS r 0=none:=rfl
theorem prevS_succ{r:List ISym}{i:Nat}{x:ISym}(h:r[i]?=some x):prevS r (i+1)=some x:=by
  unfold prevS
  rw [if_neg (by omega),Nat.add_sub_cancel,h]
theorem hasS_mem{l:List ISym}{x:ISym}(h:x∈l):hasS l x.f0 x.f1=true:=hasS_iff.2 (by cases x;exact h)
theorem s_terms(size:Int)(pre:List (List ISym))(r:List ISym)(suf:List (List ISym))(v:List IVal)(m:List Bool)(h:SmallS (pre++r :: suf) v m)(l K8:Int)(all:Int):∀ (t:List ISym) (i k:Nat),r.drop i=t→2097200+t.length<k →
    spec_SegOk.l1 k size l K8 all (pre.length:Int) r (i:Int) (pre++r :: suf) v m=if termsB size pre.flatten (prevS r i) t=true then spec_SegOk.l0 (k-t.length-1) size l K8 all ((pre.length+1:Nat):Int) (pre++r :: suf) v m else some false
  | [],i,k,hd,hk=>by
    have h2:=drop_nil hd
    have hn:=h.rows
    obtain⟨k,rfl⟩:∃ m,k=m+1:=⟨k-1,by simp at hk;omega⟩
    rw [List.length_append]at hn
    rw [spec_SegOk.l1,if_neg (by omega),w64s pre.length (by omega),termsB,if_pos rfl];rfl
  |x :: t,i,k,hd,hk=>by
    haveI:Inhabited ISym:=⟨x⟩
    obtain⟨h2,h3,h4⟩:=drop_cons hd
    have hn:=h.rows
    have hr:=h.each r (by simp)
    simp only [List.length_cons]at hk
    obtain⟨k,rfl⟩:∃ m,k=m+1:=⟨k-1,by omega⟩
    have ih:=s_terms size pre r suf v m h l K8 all t (i+1) k h4 (by omega)
    rw [prevS_succ h3]at ih
    have hin:=inS_at x.f0 x.f1 pre r suf 0 (hasS_mem (List.mem_of_getElem? h3))
    rw [Nat.zero_add]at hin
    have hq:∀ (Y:Option Bool),(if inS (pre++r :: suf) x.f0 x.f1 0=(pre.length:Int)then Y else some false)=if !hasS pre.flatten x.f0 x.f1 then Y else some false:=by
      intro Y
      by_cases hp:inS (pre++r :: suf) x.f0 x.f1 0=(pre.length:Int)
      · rw [if_pos hp,hin.1 hp];rfl
      · rw [if_neg hp]
        cases hh:hasS pre.flatten x.f0 x.f1 with
        |true=>rfl
        |false=>exact absurd (hin.2 hh) hp
    rw [spec_SegOk.l1,if_pos (by omega),if_pos (by omega),rd_isym h3,s_symB,Option.bind_some,s_in h _ _ k (by omega),Option.bind_some,w64s i (by omega),ih,List.length_cons,show k+1-(t.length+1)-1=k-t.length-1 by omega,hq]
    rw [termsB]
    cases hs:symB size x with
    |false=>rw [if_neg (by decide)];rfl
    |true =>
      rw [if_pos rfl]
      cases i with
      |zero =>
        rw [if_neg (by omega),prevS_zero,prevOk]
        cases hasS pre.flatten x.f0 x.f1<;>cases termsB size pre.flatten (some x) t<;>rfl
      |succ j =>
        have hj:r[j]?=some r[j]:=List.getElem?_eq_getElem (by omega)
        rw [if_pos (by omega),w64 (by omega) (by omega),show(((j+1:Nat):Int)-1)=(j:Int) by omega,if_pos (by omega),if_pos (by omega),rd_isym hj,s_lessB,Option.bind_some,prevS_succ hj,prevOk]
        cases lessB r[j] x<;>cases hasS pre.flatten x.f0 x.f1<;>cases termsB size pre.flatten (some x) t<;>rfl
theorem i_terms(size:Int)(l K7:Int)(all:List ISym)(ha:all.length≤1048576)(r:List ISym)(hr:r.length≤1048576)(B:List (List ISym))(K46 x47:Int)(b:List (List ISym))(v:List IVal)(m:List Bool)(N:Option Bool)(Kn:Nat)
    (hN:∀ k,Kn≤k→(if(r.length:Int)=0 then(some false)else(if all.length+r.length<8796093022208 then((some (all++r:List ISym)).bind fun y239=>(if(y239.length:Int) > 40 then(some false)else(impl_SegOk.l0 k size l K7 y239 B K46 (wrap64 (x47+1)) b v m)))else(none)))=N):∀ (t:List ISym) (i k:Nat),r.drop i=t→Kn+1048700+t.length<k →
    impl_SegOk.l1 k size l K7 all r B K46 x47 r (r.length:Int) (i:Int) b v m=if termsB size all (prevS r i) t=true then N else some false
  | [],i,k,hd,hk=>by
    have h2:=drop_nil hd
    obtain⟨k,rfl⟩:∃ m,k=m+1:=⟨k-1,by simp at hk;omega⟩
    rw [impl_SegOk.l1,if_neg (by omega),termsB,if_pos rfl]
    exact hN k (by simp at hk;omega)
  |x :: t,i,k,hd,hk=>by
    haveI:Inhabited ISym:=⟨x⟩
    obtain⟨h2,h3,h4⟩:=drop_cons hd
    simp only [List.length_cons]at hk
    obtain⟨k,rfl⟩:∃ m,k=m+1:=⟨k-1,by omega⟩
    have ih:=i_terms size l K7 all ha r hr B K46 x47 b v m N Kn hN t (i+1) k h4 (by omega)
    rw [prevS_succ h3]at ih
    rw [impl_SegOk.l1,if_pos (by omega),if_pos (by omega),if_pos (by omega),rd_isym h3,i_symB,Option.bind_some,i_contains all (by omega) _ _ k (by omega),Option.bind_some,w64s i (by omega),ih]
    rw [termsB]
    cases hs:symB size x with
    |false=>rw [if_neg (by decide)];rfl
    |true =>
      rw [if_pos rfl]
      cases i with
      |zero =>
        rw [if_neg (by omega),prevS_zero,prevOk]
        cases hasS all x.f0 x.f1<;>cases termsB size all (some x) t<;>rfl
      |succ j =>
        have hj:r[j]?=some r[j]:=List.getElem?_eq_getElem (by omega)
        rw [if_pos (by omega),w64 (by omega) (by omega),show(((j+1:Nat):Int)-1)=(j:Int) by omega,if_pos (by omega),if_pos (by omega),rd_isym hj,i_lessB,Option.bind_some,prevS_succ hj,prevOk]
        cases lessB r[j] x<;>cases hasS all x.f0 x.f1<;>cases termsB size all (some x) t<;>rfl
theorem flat_snoc(pre:List (List ISym))(r:List ISym):(pre++[r]).flatten=pre.flatten++r:=by simp
theorem s_bounds(size l:Int)(v:List IVal)(m:List Bool)(b:List (List ISym))(h:SmallS b v m)(F:Bool)(K2:Nat)(hF:∀ k,K2≤k→spec_SegOk.l2 k l (b.length:Int) 0 b v m=some F):∀ (suf pre:List (List ISym)),b=pre++suf→pre.flatten.length≤40 →
    ∃ K,∀ k,K≤k→spec_SegOk.l0 k size l (b.length:Int) (pre.flatten.length:Int) (pre.length:Int) b v m=some (boundsB size pre.flatten suf&&F)
  | [],pre,hb,hp=>by
    refine⟨K2+1,fun k hk=>?_⟩
    obtain⟨k,rfl⟩:∃ n,k=n+1:=⟨k-1,by omega⟩
    have hl:b.length=pre.length:=by rw [hb];simp
    rw [spec_SegOk.l0,if_neg (by omega),hF k (by omega),boundsB,Bool.true_and]
  |r :: suf,pre,hb,hp=>by
    have hl:b.length=pre.length+(suf.length+1):=by rw [hb];simp
    have hn:=h.rows
    have hg:b[pre.length]?=some r:=by rw [hb];simp
    have hr:=h.each r (by rw [hb];simp)
    have st:∀ k,(pre.length:Int)<(b.length:Int)∧(0:Int)≤(pre.length:Int):=fun _=>by omega
    have h':SmallS (pre++r :: suf) v m:=hb▸h
    by_cases h0:r=[]
    · refine⟨2,fun k hk=>?_⟩
      obtain⟨k,rfl⟩:∃ n,k=n+2:=⟨k-2,by omega⟩
      rw [spec_SegOk.l0,if_pos (by omega),if_pos (by omega),if_pos (by omega),rd_irow hg,h0,if_pos (show((([]:List ISym).length:Nat):Int)=0 from rfl),spec_SegOk.j2,if_pos rfl,boundsB,decide_eq_false (by simp)];rfl
    · have hz:¬(r.length:Int)=0:=by
        intro e
        exact h0 (List.eq_nil_of_length_eq_zero (by omega))
      have hw:wrap64 ((pre.flatten.length:Int)+(r.length:Int))=((pre++[r]).flatten.length:Int):=by
        rw [w64 (by omega) (by omega),flat_snoc,List.length_append];omega
      by_cases h40:(pre++[r]).flatten.length≤40
      · obtain⟨K,ih⟩:=s_bounds size l v m b h F K2 hF suf (pre++[r]) (by rw [hb];simp) h40
        refine⟨K+2097210+r.length,fun k hk=>?_⟩
        obtain⟨k,rfl⟩:∃ n,k=n+2:=⟨k-2,by omega⟩
        have tm:=s_terms size pre r suf v m h' l (b.length:Int) ((pre++[r]).flatten.length:Int) r 0 k rfl (by omega)
        rw [← hb,show((0:Nat):Int)=0 from rfl]at tm
        rw [spec_SegOk.l0,if_pos (by omega),if_pos (by omega),if_pos (by omega),rd_irow hg,if_neg hz,hw,decide_eq_false (show ¬((pre++[r]).flatten.length:Int) > 40 by omega),spec_SegOk.j2,if_neg (by decide),tm,prevS_zero]
        have ih':=ih (k-r.length-1) (by omega)
        rw [show(pre++[r]).length=pre.length+1 by simp]at ih'
        rw [ih',boundsB,decide_eq_true h0,decide_eq_true (show(pre.flatten++r).length≤40 by rw [← flat_snoc];exact h40),flat_snoc]
        cases termsB size pre.flatten none r<;>rfl
      · refine⟨2,fun k hk=>?_⟩
        obtain⟨k,rfl⟩:∃ n,k=n+2:=⟨k-2,by omega⟩
        rw [spec_SegOk.l0,if_pos (by omega),if_pos (by omega),if_pos (by omega),rd_irow hg,if_neg hz,hw,decide_eq_true (show((pre++[r]).flatten.length:Int) > 40 by omega),spec_SegOk.j2,if_pos rfl,boundsB,decide_eq_true h0,decide_eq_false (show ¬(pre.flatten++r).length≤40 by rw [← flat_snoc];exact h40)];rfl
def endI(l:Int)(b:List (List ISym))(v:List IVal)(FI:Bool)(K2:Nat):Prop:=∀ k,K2≤k→((impl_ends.f l).bind fun bt242=>(if 0<(b.length:Int)then((impl_Sym_53.f k (rd_L7 b 0) bt242.1 bt242.2.1).bind fun t249=>(if t249=true then(if 0≤(wrap64 ((b.length:Int)-1))then(if(wrap64 ((b.length:Int)-1))<(b.length:Int)then((impl_Sym_53.f k (rd_L7 b (wrap64 ((b.length:Int)-1))) bt242.2.2.1 bt242.2.2.2).bind fun t251=>(if t251=true then((slices_ContainsFunc__impl_SegOk_1.f k v).bind fun t252=>(some (!t252)))else(some false)))else(none))else(none))else(some false)))else(none)))=some FI
theorem i_bounds(size l:Int)(v:List IVal)(m:List Bool)(b:List (List ISym))(h:SmallS b v m)(FI:Bool)(K2:Nat)(hF:endI l b v FI K2):∀ (suf pre:List (List ISym)),b=pre++suf→pre.flatten.length≤40 →
    ∃ K,∀ k,K≤k→impl_SegOk.l0 k size l (b.length:Int) pre.flatten b (b.length:Int) (pre.length:Int) b v m=some (boundsB size pre.flatten suf&&FI)
  | [],pre,hb,hp=>by
    refine⟨K2+1,fun k hk=>?_⟩
    obtain⟨k,rfl⟩:∃ n,k=n+1:=⟨k-1,by omega⟩
    have hl:b.length=pre.length:=by rw [hb];simp
    rw [impl_SegOk.l0,if_neg (by omega),boundsB,Bool.true_and]
    exact hF k (by omega)
  |r :: suf,pre,hb,hp=>by
    have hl:b.length=pre.length+(suf.length+1):=by rw [hb];simp
    have hn:=h.rows
    have hg:b[pre.length]?=some r:=by rw [hb];simp
    have hr:=h.each r (by rw [hb];simp)
    have go:∃ K,∀ k,K≤k→(if(r.length:Int)=0 then(some false)else(if pre.flatten.length+r.length<8796093022208 then((some (pre.flatten++r:List ISym)).bind fun y239=>(if(y239.length:Int) > 40 then(some false)else(impl_SegOk.l0 k size l (b.length:Int) y239 b (b.length:Int) (wrap64 ((pre.length:Int)+1)) b v m)))else(none)))=some (decide (r≠[])&&decide ((pre.flatten++r).length≤40)&&boundsB size (pre.flatten++r) suf&&FI):=by
      by_cases h0:r=[]
      · exact⟨0,fun k _=>by rw [h0,if_pos (show((([]:List ISym).length:Nat):Int)=0 from rfl),decide_eq_false (by simp)];rfl⟩
      · have hz:¬(r.length:Int)=0:=by
          intro e
          exact h0 (List.eq_nil_of_length_eq_zero (by omega))
        by_cases h40:(pre.flatten++r).length≤40
        · obtain⟨K,ih⟩:=i_bounds size l v m b h FI K2 hF suf (pre++[r]) (by rw [hb];simp) (by rw [flat_snoc];exact h40)
          refine⟨K,fun k hk=>?_⟩
          have ih':=ih k hk
          rw [show(pre++[r]).length=pre.length+1 by simp,flat_snoc]at ih'
          rw [if_neg hz,if_pos (by omega),Option.bind_some,if_neg (by omega),w64s pre.length (by omega),ih',decide_eq_true h0,decide_eq_true h40];rfl
        · exact⟨0,fun k _=>by rw [if_neg hz,if_pos (by omega),Option.bind_some,if_pos (by omega),decide_eq_true h0,decide_eq_false h40];rfl⟩
    obtain⟨K,hK⟩:=go
    refine⟨K+1048710+r.length,fun k hk=>?_⟩
    obtain⟨k,rfl⟩:∃ n,k=n+1:=⟨k-1,by omega⟩
    have tm:=i_terms size l (b.length:Int) pre.flatten (by omega) r hr b (b.length:Int) (pre.length:Int) b v m _ K hK r 0 k rfl (by omega)
    rw [show((0:Nat):Int)=0 from rfl]at tm
    rw [impl_SegOk.l0,if_pos (by omega),if_pos (by omega),if_pos (by omega),rd_irow hg,tm,prevS_zero,boundsB]
    cases termsB size pre.flatten none r<;>cases decide (r≠[])<;>cases decide ((pre.flatten++r).length≤40)<;>rfl
def okV(x:IVal):Bool:=okR x.f0.f0 x.f0.f1
theorem s_vloop(l:Int)(v:List IVal)(m:List Bool)(b:List (List ISym))(h:SmallS b v m)(hv:v.length+1=b.length):∀ (t:List IVal) (i k:Nat),v.drop i=t→2097200+t.length<k →
    spec_SegOk.l2 k l (b.length:Int) (i:Int) b v m=some (t.all okV&&(decide (inS b 0 0 0=0)&&(inS b l 0 0 ==(v.length:Int))))
  | [],i,k,hd,hk=>by
    have h2:=drop_nil hd
    have hn:=h.rows
    obtain⟨k,rfl⟩:∃ n,k=n+1:=⟨k-1,by simp at hk;omega⟩
    simp only [List.length_nil]at hk
    have hw:wrap64 ((b.length:Int)-1)=(v.length:Int):=by rw [w64 (by omega) (by omega)];omega
    rw [spec_SegOk.l2,hw,if_neg (by omega),s_in h 0 0 k (by omega),Option.bind_some,s_in h l 0 k (by omega),Option.bind_some,List.all_nil,Bool.true_and]
    by_cases h0:inS b 0 0 0=0
    · rw [if_pos h0,decide_eq_true h0,Bool.true_and]
    · rw [if_neg h0,decide_eq_false h0,Bool.false_and]
  |x :: t,i,k,hd,hk=>by
    haveI:Inhabited IVal:=⟨x⟩
    obtain⟨h2,h3,h4⟩:=drop_cons hd
    have hn:=h.rows
    simp only [List.length_cons]at hk
    obtain⟨k,rfl⟩:∃ n,k=n+1:=⟨k-1,by omega⟩
    have hw:wrap64 ((b.length:Int)-1)=(v.length:Int):=by rw [w64 (by omega) (by omega)];omega
    rw [spec_SegOk.l2,hw,if_pos (by omega),if_pos (by omega),if_pos (by omega),rd_ival h3,s_vok,Option.bind_some,w64s i (by omega),s_vloop l v m b h hv t (i+1) k h4 (by omega),List.all_cons]
    unfold okV
    cases okR x.f0.f0 x.f0.f1<;>rfl
theorem i_vidx(v:List IVal)(hn:v.length≤1048576):∀ (t:List IVal) (i k:Nat),v.drop i=t→t.length<k→∃ r,slices_IndexFunc__impl_SegOk_1.l0 k v (v.length:Int) (i:Int)=some r∧decide (r≥0)=!t.all okV
  | [],i,k,hd,hk=>by
    have h2:=drop_nil hd
    obtain⟨k,rfl⟩:∃ n,k=n+1:=⟨k-1,by simp at hk;omega⟩
    exact⟨-1,by rw [slices_IndexFunc__impl_SegOk_1.l0,if_neg (by omega)],rfl⟩
  |x :: t,i,k,hd,hk=>by
    haveI:Inhabited IVal:=⟨x⟩
    obtain⟨h2,h3,h4⟩:=drop_cons hd
    obtain⟨k,rfl⟩:∃ n,k=n+1:=⟨k-1,by simp at hk;omega⟩
    obtain⟨r,q1,q2⟩:=i_vidx v hn t (i+1) k h4 (by simp at hk;omega)
    cases ho:okV x with
    |true =>
      refine⟨r,?_,by rw [q2,List.all_cons,ho,Bool.true_and]⟩
      rw [slices_IndexFunc__impl_SegOk_1.l0,if_pos (by omega),if_pos (by omega),if_pos (by omega),rd_ival h3,impl_SegOk_1.f,i_vok,Option.bind_some,Option.bind_some,w64s i (by omega)]
      unfold okV at ho
      rw [ho,if_neg (by decide)];exact q1
    |false =>
      refine⟨(i:Int),?_,by rw [List.all_cons,ho,Bool.false_and];exact decide_eq_true (by omega)⟩
      rw [slices_IndexFunc__impl_SegOk_1.l0,if_pos (by omega),if_pos (by omega),if_pos (by omega),rd_ival h3,impl_SegOk_1.f,i_vok,Option.bind_some,Option.bind_some]
      unfold okV at ho
      rw [ho,if_pos (by decide)]
theorem i_end{l:Int}{v:List IVal}{m:List Bool}{pre:List (List ISym)}{r0 r:List ISym}{b:List (List ISym)}(h:SmallS b v m)(hb:b=pre++[r])(h0:b[0]?=some r0) :
    endI l b v (hasS r0 0 0&&hasS r l 0&&v.all okV) 1048600:=by
  intro k hk
  have hn:=h.rows
  have hl:b.length=pre.length+1:=by rw [hb];simp
  have hg:b[pre.length]?=some r:=by rw [hb];simp
  have hw:wrap64 ((b.length:Int)-1)=(pre.length:Int):=by rw [w64 (by omega) (by omega)];omega
  have hr:=h.each r (by rw [hb];simp)
  have hr0:=h.each r0 (List.mem_of_getElem? h0)
  have hv:=h.vals
  have e0:rd_L7 b 0=r0:=rd_irow (i:=0) h0
  obtain⟨x,q1,q2⟩:=i_vidx v hv v 0 k rfl (by omega)
  rw [show((0:Nat):Int)=0 from rfl]at q1
  rw [impl_ends.f,Option.bind_some]
  simp only
  rw [if_pos (by omega),e0,i_contains r0 (by omega) _ _ k (by omega),Option.bind_some,hw,if_pos (show(0:Int)≤(pre.length:Int) by omega),if_pos (show(pre.length:Int)<(b.length:Int) by omega),rd_irow hg,i_contains r (by omega) _ _ k (by omega),Option.bind_some,slices_ContainsFunc__impl_SegOk_1.f,slices_IndexFunc__impl_SegOk_1.f,q1,Option.bind_some,Option.bind_some,q2,Bool.not_not]
  cases hasS r0 0 0<;>cases hasS r l 0<;>rfl
theorem terms_apart{size:Int}{all:List ISym}{x:ISym}:∀ {t:List ISym} {p:Option ISym},termsB size all p t=true→x∈t→hasS all x.f0 x.f1=false
  | [],_,_,hx=>by cases hx
  |y :: t,p,h,hx=>by
    rw [termsB]at h
    simp only [Bool.and_eq_true,Bool.not_eq_true']at h
    rcases List.mem_cons.1 hx with rfl|hx
    · exact h.1.2
    · exact terms_apart h.2 hx
theorem bounds_apart{size:Int}{r:List ISym}{x y:Int}(hr:hasS r x y=true):∀ (pre:List (List ISym)) (all:List ISym),boundsB size all (pre++[r])=true→hasS (all++pre.flatten) x y=false
  | [],all,h=>by
    rw [List.nil_append,boundsB]at h
    simp only [Bool.and_eq_true]at h
    rw [List.flatten_nil,List.append_nil]
    have:=terms_apart h.1.2 (hasS_iff.1 hr)
    exact this
  |p :: pre,all,h=>by
    rw [List.cons_append,boundsB]at h
    simp only [Bool.and_eq_true]at h
    have:=bounds_apart hr pre (all++p) h.2
    rw [List.flatten_cons,← List.append_assoc]
    exact this
def shapeB(size l:Int):Bool:=(decide (2≤size)&&decide (size≤13))&&(decide (1≤l)&&decide (l≤wrap64 (size-1)))
theorem s_shape(size l:Int):spec_l10Size.f size l=some (shapeB size l):=by
  unfold spec_l10Size.f shapeB
  rw [btw,Option.bind_some,btw]
  cases (decide (2≤size)&&decide (size≤13))<;>rfl
theorem i_shape(size l:Int):impl_isShape.f size l=some (shapeB size l):=by
  unfold impl_isShape.f shapeB
  rw [inR,Option.bind_some,inR]
  cases (decide (2≤size)&&decide (size≤13))<;>rfl
structure GoodS (size:Int) (b:List (List ISym)) (v:List IVal) (m:List Bool):Prop where
  most:2≤size∧size≤13
  rows:b.length≤16
  vals:v.length+1=b.length
  flags:m.length+1=b.length
  valOk:∀ x∈v,okV x=true
  short:∀ r∈b,r.length≤40
  terms:∀ r∈b,∀ x∈r,(0≤x.f0∧x.f0≤size-1)∧(-1000≤x.f1∧x.f1≤1000)
theorem termsB_sym{size:Int}{all:List ISym}:∀ {t:List ISym} {p:Option ISym},termsB size all p t=true→∀ x∈t,symB size x=true
  | [],_,_,x,hx=>by simp at hx
  |y :: t,p,h,x,hx=>by
    simp only [termsB,Bool.and_eq_true]at h
    rcases List.mem_cons.1 hx with rfl|hx
    · exact h.1.1.1
    · exact termsB_sym h.2 x hx
theorem boundsB_each{size:Int}:∀ {b:List (List ISym)} {all:List ISym},boundsB size all b=true→∀ r∈b,r.length≤40∧∀ x∈r,symB size x=true
  | [],_,_,r,hr=>by simp at hr
  |y :: t,all,h,r,hr=>by
    simp only [boundsB,Bool.and_eq_true,decide_eq_true_eq]at h
    rcases List.mem_cons.1 hr with rfl|hr
    · have:=h.1.1.2
      rw [List.length_append]at this
      exact⟨by omega,termsB_sym h.1.2⟩
    · exact boundsB_each h.2 r hr
theorem good_of{size l:Int}{b:List (List ISym)}{v:List IVal}{m:List Bool}{X:Bool}(hs:shapeB size l=true)(h2:b.length≤16)(hv:v.length+1=b.length)(hm:m.length+1=b.length)(hc:(boundsB size ([]:List (List ISym)).flatten b&&(v.all okV&&X))=true):GoodS size b v m:=by
  simp only [Bool.and_eq_true]at hc
  have hs':=hs
  unfold shapeB at hs'
  simp only [Bool.and_eq_true,decide_eq_true_eq]at hs'
  have he:=boundsB_each hc.1
  refine⟨hs'.1,h2,hv,hm,fun x hx=>List.all_eq_true.1 hc.2.1 x hx,fun r hr=>(he r hr).1,fun r hr x hx=>?_⟩
  have:=(he r hr).2 x hx
  unfold symB at this
  simp only [Bool.and_eq_true,decide_eq_true_eq]at this
  rw [w64 (by omega) (by omega)]at this
  exact⟨this.1.2,this.2⟩
structure EndS (size l:Int) (b:List (List ISym)):Prop where
  len:1≤l∧l≤size-1
  full:∀ r∈b,r≠[]
  first:∃ r t,b=r :: t∧(⟨0,0⟩:ISym)∈r
  last:∃ p r,b=p++[r]∧(⟨l,0⟩:ISym)∈r
  bnd:boundsB size ([]:List ISym) b=true
theorem boundsB_full{size:Int}:∀ {b:List (List ISym)} {all:List ISym},boundsB size all b=true→∀ r∈b,r≠[]
  | [],_,_,r,hr=>by simp at hr
  |y :: t,all,h,r,hr=>by
    simp only [boundsB,Bool.and_eq_true,decide_eq_true_eq]at h
    rcases List.mem_cons.1 hr with rfl|hr
    · exact h.1.1.1
    · exact boundsB_full h.2 r hr
theorem ends_of{size l:Int}{b:List (List ISym)}{v:List IVal}{pre:List (List ISym)}{r0 r:List ISym}{t0:List (List ISym)}(hs:shapeB size l=true)(hb:b=pre++[r])(hb0:b=r0 :: t0)(hc:(boundsB size ([]:List (List ISym)).flatten b&&(hasS r0 0 0&&hasS r l 0&&v.all okV))=true):EndS size l b:=by
  simp only [Bool.and_eq_true]at hc
  unfold shapeB at hs
  simp only [Bool.and_eq_true,decide_eq_true_eq]at hs
  rw [w64 (by omega) (by omega)]at hs
  exact⟨hs.2,boundsB_full hc.1,⟨r0,t0,hb0,hasS_iff.1 hc.2.1.1⟩,⟨pre,r,hb,hasS_iff.1 hc.2.1.2⟩,hc.1⟩
theorem segOkE(size l:Int)(b:List (List ISym))(v:List IVal)(m:List Bool)(h:SmallS b v m):∃ K c,(c=true→GoodS size b v m∧EndS size l b)∧∀ k,K≤k→spec_SegOk.f k size l b v m=some c∧impl_SegOk.f k size l b v m=some c:=by
  have hn:=h.rows
  have sbad:∀ k,1≤k→spec_SegOk.j0 k size l (b.length:Int) true b v m=some false:=fun k hk=>by
    obtain⟨k,rfl⟩:∃ n,k=n+1:=⟨k-1,by omega⟩
    rw [spec_SegOk.j0,if_pos rfl]
  have ibad:∀ k,1≤k→impl_SegOk.j0 k size l (b.length:Int) true b v m=some false:=fun k hk=>by
    obtain⟨k,rfl⟩:∃ n,k=n+1:=⟨k-1,by omega⟩
    rw [impl_SegOk.j0,if_pos rfl]
  cases hs:shapeB size l with
  |false =>
    refine⟨1,false,fun e=>by simp at e,fun k hk=>?_⟩
    rw [spec_SegOk.f,impl_SegOk.f,s_shape,i_shape,hs,Option.bind_some,Option.bind_some,if_neg (by decide),if_neg (by decide),sbad k hk,ibad k hk]
    exact⟨rfl,rfl⟩
  |true =>
    by_cases hk1:1≤b.length
    · by_cases hk2:b.length≤16
      · have hw:wrap64 ((b.length:Int)-1)=(b.length:Int)-1:=w64 (by omega) (by omega)
        have hir:(decide ((1:Int)≤(b.length:Int))&&decide ((b.length:Int)≤16))=true:=by rw [decide_eq_true (by omega),decide_eq_true (by omega)];rfl
        by_cases hv:v.length+1=b.length
        · by_cases hm:m.length+1=b.length
          · obtain⟨pre,r,hb⟩:∃ pre r,b=pre++[r]:=⟨b.dropLast,b.getLast (by intro e;rw [e]at hk1;simp at hk1),(List.dropLast_concat_getLast _).symm⟩
            obtain⟨r0,t0,hb0⟩:∃ r0 t0,b=r0 :: t0:=by
              cases b with
              |nil=>simp at hk1
              |cons a t=>exact⟨a,t,rfl⟩
            have hg0:b[0]?=some r0:=by rw [hb0];rfl
            have hsF:=s_vloop l v m b h hv v 0
            obtain⟨K1,q1⟩:=s_bounds size l v m b h _ (2097300+v.length) (fun k hk=>by
              have:=hsF k rfl (by omega)
              exact this) b [] rfl (by simp)
            obtain⟨K2,q2⟩:=i_bounds size l v m b h _ 1048600 (i_end (l:=l) h hb hg0) b [] rfl (by simp)
            have he:(boundsB size ([]:List (List ISym)).flatten b&&(v.all okV&&(decide (inS b 0 0 0=0)&&(inS b l 0 0 ==(v.length:Int)))))=(boundsB size ([]:List (List ISym)).flatten b&&(hasS r0 0 0&&hasS r l 0&&v.all okV)):=by
              cases hB:boundsB size ([]:List (List ISym)).flatten b with
              |false=>rfl
              |true =>
                have e1:decide (inS b 0 0 0=0)=hasS r0 0 0:=by
                  rw [Bool.eq_iff_iff,decide_eq_true_eq,hb0]
                  exact inS_first 0 0 r0 t0
                have e2:(inS b l 0 0 ==(v.length:Int))=hasS r l 0:=by
                  have hp:(v.length:Int)=((0+pre.length:Nat):Int):=by
                    have:b.length=pre.length+1:=by rw [hb];simp
                    omega
                  rw [Bool.eq_iff_iff,beq_iff_eq,hp,hb,inS_last l 0 pre r 0]
                  constructor
                  · exact fun h=>h.2
                  · intro hr
                    rw [hb]at hB
                    have:=bounds_apart hr pre [] hB
                    rw [List.nil_append]at this
                    exact⟨this,hr⟩
                rw [e1,e2]
                cases hasS r0 0 0<;>cases hasS r l 0<;>cases v.all okV<;>rfl
            refine⟨K1+K2+2,boundsB size ([]:List (List ISym)).flatten b&&(v.all okV&&(decide (inS b 0 0 0=0)&&(inS b l 0 0 ==(v.length:Int)))),fun hc=>⟨good_of hs hk2 hv hm hc,ends_of hs hb hb0 (he.symm.trans hc)⟩,fun k hk=>⟨?_,?_⟩⟩
            · obtain⟨k,rfl⟩:∃ n,k=n+1:=⟨k-1,by omega⟩
              rw [spec_SegOk.f,s_shape,hs,Option.bind_some,if_pos rfl,if_neg (by omega),if_neg (by omega),hw,if_pos (by omega),show((m.length:Int) !=(b.length:Int)-1)=false from bne_eq_false_iff_eq.2 (by omega),spec_SegOk.j0,if_neg (by decide)]
              exact q1 k (by omega)
            · obtain⟨k,rfl⟩:∃ n,k=n+1:=⟨k-1,by omega⟩
              rw [impl_SegOk.f,i_shape,hs,Option.bind_some,if_pos rfl,inR,Option.bind_some,hir,if_pos rfl,hw,if_pos (by omega),show((m.length:Int) !=(b.length:Int)-1)=false from bne_eq_false_iff_eq.2 (by omega),impl_SegOk.j0,if_neg (by decide),he]
              exact q2 k (by omega)
          · refine⟨1,false,fun e=>by simp at e,fun k hk=>?_⟩
            have e:((m.length:Int) !=(b.length:Int)-1)=true:=bne_iff_ne.2 (by omega)
            rw [spec_SegOk.f,impl_SegOk.f,s_shape,i_shape,hs,Option.bind_some,Option.bind_some,if_pos rfl,if_pos rfl,if_neg (by omega),if_neg (by omega),inR,hir,Option.bind_some,if_pos rfl,hw,if_pos (by omega),if_pos (by omega),e,sbad k hk,ibad k hk]
            exact⟨rfl,rfl⟩
        · refine⟨1,false,fun e=>by simp at e,fun k hk=>?_⟩
          rw [spec_SegOk.f,impl_SegOk.f,s_shape,i_shape,hs,Option.bind_some,Option.bind_some,if_pos rfl,if_pos rfl,if_neg (by omega),if_neg (by omega),inR,hir,Option.bind_some,if_pos rfl,hw,if_neg (by omega),if_neg (by omega),sbad k hk,ibad k hk]
          exact⟨rfl,rfl⟩
      · have hir:(decide ((1:Int)≤(b.length:Int))&&decide ((b.length:Int)≤16))=false:=by rw [decide_eq_false (show ¬(b.length:Int)≤16 by omega),Bool.and_false]
        refine⟨1,false,fun e=>by simp at e,fun k hk=>?_⟩
        rw [spec_SegOk.f,impl_SegOk.f,s_shape,i_shape,hs,Option.bind_some,Option.bind_some,if_pos rfl,if_pos rfl,if_neg (by omega),if_pos (by omega),inR,hir,Option.bind_some,if_neg (by decide),sbad k hk,ibad k hk]
        exact⟨rfl,rfl⟩
    · have hir:(decide ((1:Int)≤(b.length:Int))&&decide ((b.length:Int)≤16))=false:=by rw [decide_eq_false (show ¬(1:Int)≤(b.length:Int) by omega),Bool.false_and]
      refine⟨1,false,fun e=>by simp at e,fun k hk=>?_⟩
      rw [spec_SegOk.f,impl_SegOk.f,s_shape,i_shape,hs,Option.bind_some,Option.bind_some,if_pos rfl,if_pos rfl,if_pos (by omega),inR,hir,Option.bind_some,if_neg (by decide),sbad k hk,ibad k hk]
      exact⟨rfl,rfl⟩
end Go.Proofs.YtcdeojfeebmonaaDoor.Q
namespace Go.Proofs.YtcdeojfeebmonaaDoor.Q
open Go.RowKit Go.Proofs.YtcdeojfeebmonaaDoorW.PrintWords Go.Proofs.YtcdeojfeebmonaaDoorW.PrintLast Go.Proofs.YtcdeojfeebmonaaDoorW.PrintMore
open Go.Proofs.YtcdeojfeebmonaaDoor.Open
set_option linter.unusedSimpArgs false
set_option linter.unusedVariables false
theorem s_min(a b:Int):spec_l06Min.f a b=some (if a<b then a else b):=by unfold spec_l06Min.f;split<;>rfl
theorem s_max(a b:Int):spec_l06Max.f a b=some (if b<a then a else b):=by unfold spec_l06Max.f;split<;>simp_all
theorem s_make(lo hi:Int):spec_l06Make.f lo hi=some (mkR lo hi):=by
  unfold spec_l06Make.f spec_l06None.f mkR mx mn
  simp only [s_min,s_max,Option.bind_some]
  (repeat' split)<;>first|rfl|omega|(simp;omega)
end Go.Proofs.YtcdeojfeebmonaaDoor.Q
namespace Go.Proofs.YtcdeojfeebmonaaDoor.Q
open Go.RowKit Go.Proofs.YtcdeojfeebmonaaDoorW.PrintWords Go.Proofs.YtcdeojfeebmonaaDoorW.PrintLast Go.Proofs.YtcdeojfeebmonaaDoorW.PrintMore
open Go.Proofs.YtcdeojfeebmonaaDoor.Open
set_option linter.unusedSimpArgs false
set_option linter.unusedVariables false
def joinR(a b c d:Int):Int×Int:=if(okR a b&&okR c d)=true then(if(a == 1&&b == 0)=true then(c,d)else if(c == 1&&d == 0)=true then(a,b)else(mn a c,mx b d))else(1,0)
theorem i_join(k:Nat)(a b c d:Int):impl_RangeJoin.f (k+1) a b c d=some (joinR a b c d):=by
  unfold impl_RangeJoin.f impl_RangeJoin.j0 joinR impl_orOther.f
  simp only [i_ok,Option.bind_some]
  (repeat' split)<;>simp_all
theorem s_join(k:Nat)(a b c d:Int):spec_RangeJoin.f (k+1) a b c d=some (joinR a b c d):=by
  unfold spec_RangeJoin.f spec_RangeJoin.j0 joinR
  simp only [s_ok,s_is,s_min,s_max,s_make,Option.bind_some,spec_l06None.f]
  by_cases h1:okR a b=true
  · by_cases h2:okR c d=true
    · simp only [h1,h2,if_true,Bool.not_true,Bool.and_self]
      rcases (okR_iff a b).1 h1 with⟨rfl,rfl⟩|⟨p1,p2,p3⟩
      · simp
      · have q1:decide (a≤b)=true:=by simpa using p3
        have q2:(a == 1&&b == 0)=false:=by simp;omega
        simp only [q1,q2,if_true,Bool.false_eq_true,if_false]
        rcases (okR_iff c d).1 h2 with⟨rfl,rfl⟩|⟨p4,p5,p6⟩
        · simp
        · have q3:decide (c≤d)=true:=by simpa using p6
          have q4:(c == 1&&d == 0)=false:=by simp;omega
          simp only [q3,q4,if_true,Bool.false_eq_true,if_false]
          have e1:(if a<c then a else c)=mn a c:=by unfold mn;split<;>split<;>omega
          have e2:(if d<b then b else d)=mx b d:=by unfold mx;split<;>split<;>omega
          rw [e1,e2,mkR_in]
          · unfold mn;split<;>omega
          · unfold mx;split<;>omega
          · unfold mn mx;split<;>split<;>omega
    · simp [h1,h2]
  · simp [h1]
end Go.Proofs.YtcdeojfeebmonaaDoor.Q
namespace Go.Proofs.YtcdeojfeebmonaaDoor.Q
open Go.RowKit Go.Proofs.YtcdeojfeebmonaaDoorW.PrintWords Go.Proofs.YtcdeojfeebmonaaDoorW.PrintLast Go.Proofs.YtcdeojfeebmonaaDoorW.PrintMore
open Go.Proofs.YtcdeojfeebmonaaDoor.Open
set_option linter.unusedSimpArgs false
set_option linter.unusedVariables false
def joinV(a b:Int)(s:Bool)(c d:Int)(t:Bool):Int×Int×Bool:=if(okR a b&&okR c d)=true then((joinR a b c d).1,(joinR a b c d).2,s&&t)else(1,0,true)
theorem i_vjoin(k:Nat)(a b:Int)(s:Bool)(c d:Int)(t:Bool):impl_ValJoin.f (k+1) a b s c d t=some (joinV a b s c d t):=by
  unfold impl_ValJoin.f joinV
  simp only [i_vok,i_join,Option.bind_some]
  cases okR a b<;>cases okR c d<;>cases s<;>simp
theorem s_vjoin(k:Nat)(a b:Int)(s:Bool)(c d:Int)(t:Bool):spec_ValJoin.f (k+2) a b s c d t=some (joinV a b s c d t):=by
  unfold spec_ValJoin.f spec_ValJoin.j0 joinV spec_l09None.f spec_l06None.f
  simp only [s_vok,s_join,Option.bind_some]
  cases okR a b<;>cases okR c d<;>cases s<;>simp
def vj(x y:IVal):IVal:=⟨⟨(joinV x.f0.f0 x.f0.f1 x.f1 y.f0.f0 y.f0.f1 y.f1).1,(joinV x.f0.f0 x.f0.f1 x.f1 y.f0.f0 y.f0.f1 y.f1).2.1⟩,(joinV x.f0.f0 x.f0.f1 x.f1 y.f0.f0 y.f0.f1 y.f1).2.2⟩
end Go.Proofs.YtcdeojfeebmonaaDoor.Q
namespace Go.Proofs.YtcdeojfeebmonaaDoor.Q
open Go.RowKit Go.Proofs.YtcdeojfeebmonaaDoorW.PrintWords Go.Proofs.YtcdeojfeebmonaaDoorW.PrintLast Go.Proofs.YtcdeojfeebmonaaDoorW.PrintMore
open Go.Proofs.YtcdeojfeebmonaaDoor.Open
set_option linter.unusedSimpArgs false
set_option linter.unusedVariables false
abbrev ICr:=S92
abbrev SCr:=S98
def sC(x:ICr):SCr:=⟨x.f0,x.f1,x.f2⟩
theorem rd_scr(l:List ICr)(i:Int):rd_T98 (l.map sC) i=sC (rd_T92 l i):=by
  unfold rd_T98 rd_T92
  rw [List.getD_eq_getElem?_getD,List.getD_eq_getElem?_getD,List.getElem?_map]
  cases l[i.toNat]?<;>rfl
theorem mem_has(two:List ISym)(x:ISym):cr_mem two x=hasS two x.f0 x.f1:=by
  unfold cr_mem hasS
  congr 1
  funext y
  unfold isSym
  rw [Bool.beq_comm,Bool.beq_comm (a:=x.f1)]
set_option maxRecDepth 100000 in
theorem kept_row(al bs:List (List ISym))(va vb:List IVal)(ma mb:List Bool)(ha:al.length≤1000)(hb:bs.length≤1000)(i j:Nat)(one two:List ISym)(hi:al[i]?=some one)(hj:bs[j]?=some two)(h1:one.length≤1000)(h2:two.length≤1000)(out:List ICr)(ho:out.length≤2000000)(F:List SCr)(K:Nat)
    (hF:∀ k,K≤k→spec_l11Kept.l1 k ((cr_step (i:Int) (j:Int) one two out).map sC) (i:Int) ((j+1:Nat):Int) al va ma bs vb mb=some F):∀ (t:List ISym) (q k:Nat) (acc:List ISym),one.drop q=t→acc.length≤q→acc++cr_t t two=cr_t one two→K+1200+t.length<k→spec_l11Kept.l2 k (out.map sC) (i:Int) (j:Int) (q:Int) al va ma bs vb mb (i:Int) (j:Int) acc=some F
  | [],q,k,acc,hd,hq,he,hk=>by
    have hql:=drop_nil hd
    obtain⟨k,rfl⟩:∃ m,k=m+1:=⟨k-1,by omega⟩
    have hil:=(List.getElem?_eq_some_iff.1 hi).1
    have hacc:acc=cr_t one two:=by rw [← he];simp [cr_t]
    rw [spec_l11Kept.l2,if_pos (by omega),if_pos (by omega),rd_irow hi,if_neg (by omega),w64s j (by have:=(List.getElem?_eq_some_iff.1 hj).1;omega)]
    have hs:=hF k (by omega)
    unfold cr_step at hs
    rw [← hacc]at hs
    by_cases c1:0<acc.length
    · rw [if_pos c1]at hs
      rw [if_pos (by omega)]
      by_cases c2:out.length=0
      · rw [if_pos c2,List.map_append]at hs
        rw [if_pos (by rw [List.length_map];omega),if_pos (by rw [List.length_map];omega)]
        exact hs
      · rw [if_neg c2]at hs
        have hw:wrap64 (((out.map sC).length:Int)-1)=(out.length:Int)-1:=by rw [List.length_map];exact w64 (by omega) (by omega)
        rw [if_neg (by rw [List.length_map];omega),hw,if_pos (by omega),if_pos (by rw [List.length_map];omega),rd_scr]
        by_cases c3:(rd_T92 out ((out.length:Int)-1)).f1≤(j:Int)
        · rw [if_pos c3,List.map_append]at hs
          rw [if_pos (show(j:Int)≥(sC (rd_T92 out ((out.length:Int)-1))).f1 from c3),if_pos (by rw [List.length_map];omega)]
          exact hs
        · rw [if_neg c3]at hs
          rw [if_neg (show ¬(j:Int)≥(sC (rd_T92 out ((out.length:Int)-1))).f1 from c3)]
          exact hs
    · rw [if_neg c1]at hs
      rw [if_neg (by omega)]
      exact hs
  |x :: t,q,k,acc,hd,hq,he,hk=>by
    obtain⟨q1,q2,q3⟩:=drop_cons hd
    obtain⟨k,rfl⟩:∃ m,k=m+1:=⟨k-1,by omega⟩
    have hil:=(List.getElem?_eq_some_iff.1 hi).1
    have hjl:=(List.getElem?_eq_some_iff.1 hj).1
    simp only [List.length_cons]at hk
    have hf:=s_find two (by omega) x.f0 x.f1 two 0 k rfl (by omega)
    rw [show((0:Nat):Int)=0 from rfl]at hf
    have hh:=findS_has x.f0 x.f1 two 0
    rw [← mem_has]at hh
    rw [spec_l11Kept.l2,if_pos (by omega),if_pos (by omega),rd_irow hi,if_pos (by omega),if_pos (by omega),if_pos (by omega),if_pos (by omega),rd_irow hj,rd_isym q2,spec_l10Find.f,hf,Option.bind_some,w64s q (by omega)]
    have hx:cr_t (x :: t) two=if cr_mem two x=true then x :: cr_t t two else cr_t t two:=by
      unfold cr_t
      rw [List.filter_cons]
      cases cr_mem two x<;>rfl
    rw [hx]at he
    by_cases hp:findS two x.f0 x.f1 0≥0
    · rw [decide_eq_true hp]at hh
      rw [← hh,if_pos rfl]at he
      rw [if_pos hp,if_pos (by omega)]
      exact kept_row al bs va vb ma mb ha hb i j one two hi hj h1 h2 out ho F K hF t (q+1) k (acc++[x]) q3 (by rw [List.length_append,List.length_singleton];omega) (by rw [List.append_assoc];exact he) (by omega)
    · rw [decide_eq_false hp]at hh
      rw [← hh,if_neg (by decide)]at he
      rw [if_neg hp]
      exact kept_row al bs va vb ma mb ha hb i j one two hi hj h1 h2 out ho F K hF t (q+1) k acc q3 (by omega) he (by omega)
set_option maxRecDepth 100000 in
theorem kept_bound(al bs:List (List ISym))(va vb:List IVal)(ma mb:List Bool)(ha:al.length≤1000)(hb:bs.length≤1000)(h2:∀ r∈bs,r.length≤1000)(i:Nat)(one:List ISym)(hi:al[i]?=some one)(h1:one.length≤1000)(F:List SCr)(K:Nat)(F0:List ICr)
    (hF:∀ k,K≤k→spec_l11Kept.l0 k (F0.map sC) ((i+1:Nat):Int) al va ma bs vb mb=some F):∀ (t:List (List ISym)) (j k:Nat) (out:List ICr),bs.drop j=t→out.length+t.length≤2000000→cr_row (i:Int) one t j out=F0→K+2300*(t.length+1)<k→spec_l11Kept.l1 k (out.map sC) (i:Int) (j:Int) al va ma bs vb mb=some F
  | [],j,k,out,hd,ho,he,hk=>by
    have hjl:=drop_nil hd
    obtain⟨k,rfl⟩:∃ m,k=m+1:=⟨k-1,by omega⟩
    have hil:=(List.getElem?_eq_some_iff.1 hi).1
    rw [cr_row]at he
    subst he
    rw [spec_l11Kept.l1,if_neg (by omega),w64s i (by omega)]
    exact hF k (by simp at hk;omega)
  |two :: t,j,k,out,hd,ho,he,hk=>by
    obtain⟨q1,q2,q3⟩:=drop_cons hd
    obtain⟨k,rfl⟩:∃ m,k=m+1:=⟨k-1,by omega⟩
    simp only [List.length_cons]at hk ho
    rw [cr_row]at he
    have hl:=cr_step_len (i:Int) (j:Int) one two out
    rw [spec_l11Kept.l1,if_pos (by omega)]
    have hz:=kept_row al bs va vb ma mb ha hb i j one two hi q2 h1 (h2 two (List.mem_of_getElem? q2)) out (by omega) F (K+2300*(t.length+1)+1)
      (fun k hk=>kept_bound al bs va vb ma mb ha hb h2 i one hi h1 F K F0 hF t (j+1) k (cr_step (i:Int) (j:Int) one two out) q3 (by omega) he (by omega)) one 0 k [] rfl (Nat.le_refl _) rfl (by omega)
    exact hz
set_option maxRecDepth 100000 in
theorem kept_all(al bs:List (List ISym))(va vb:List IVal)(ma mb:List Bool)(ha:al.length≤1000)(hb:bs.length≤1000)(h1:∀ r∈al,r.length≤1000)(h2:∀ r∈bs,r.length≤1000)(F0:List ICr):∀ (t:List (List ISym)) (i k:Nat) (out:List ICr),al.drop i=t→out.length+t.length*1000≤1000000→cr_all bs t i out=F0→2400000*(t.length+1)<k→spec_l11Kept.l0 k (out.map sC) (i:Int) al va ma bs vb mb=some ((cr_cut F0).map sC)
  | [],i,k,out,hd,ho,he,hk=>by
    have hil:=drop_nil hd
    obtain⟨k,rfl⟩:∃ m,k=m+1:=⟨k-1,by omega⟩
    rw [cr_all]at he
    subst he
    rw [spec_l11Kept.l0,if_neg (by omega)]
    unfold cr_cut
    simp only [List.length_nil]at ho
    by_cases c:16<out.length
    · have hw:wrap64 (((out.map sC).length:Int)-1)=(out.length:Int)-1:=by rw [List.length_map];exact w64 (by omega) (by omega)
      rw [if_pos c,if_pos (by rw [List.length_map];omega),hw,if_pos (by omega),if_pos (by rw [List.length_map];omega),if_pos (by rw [List.length_map];omega),Option.bind_some,if_pos (by rw [List.length_take];omega),rd_scr,List.map_append,← List.map_take]
      rfl
    · rw [if_neg c,if_neg (by rw [List.length_map];omega)]
  |one :: t,i,k,out,hd,ho,he,hk=>by
    obtain⟨q1,q2,q3⟩:=drop_cons hd
    obtain⟨k,rfl⟩:∃ m,k=m+1:=⟨k-1,by omega⟩
    simp only [List.length_cons]at hk ho
    rw [cr_all]at he
    have hl:=cr_row_len (i:Int) one bs 0 out
    rw [spec_l11Kept.l0,if_pos (by omega)]
    have hz:=kept_bound al bs va vb ma mb ha hb h2 i one q2 (h1 one (List.mem_of_getElem? q2)) ((cr_cut F0).map sC) (2400000*(t.length+1)+1) (cr_row (i:Int) one bs 0 out)
      (fun k hk=>kept_all al bs va vb ma mb ha hb h1 h2 F0 t (i+1) k (cr_row (i:Int) one bs 0 out) q3 (by omega) he (by omega)) bs 0 k out rfl (by omega) rfl (by omega)
    exact hz
set_option maxRecDepth 100000 in
theorem kept_is(al bs:List (List ISym))(va vb:List IVal)(ma mb:List Bool)(ha:al.length≤1000)(hb:bs.length≤1000)(h1:∀ r∈al,r.length≤1000)(h2:∀ r∈bs,r.length≤1000)(k:Nat)(hk:2500000000<k):spec_l11Kept.f k al va ma bs vb mb=some ((impl_SegLeq.L al bs).map sC) :=
  kept_all al bs va vb ma mb ha hb h1 h2 _ al 0 k [] rfl (by simp;omega) rfl (by omega)
def stJ(v:List IVal)(m:List Bool):Nat→Nat→IVal×Bool→IVal×Bool
  |0,_,p=>p
  |n+1,i,p=>stJ v m n (i+1) (vj p.1 (rd_T60 v (i:Int)),p.2&&rdOf false m (i:Int))
theorem st_is(v:List IVal)(m:List Bool):∀ (n i:Nat) (p:IVal×Bool),st_go v m n i p=some (stJ v m n i p)
  |0,_,_=>rfl
  |n+1,i,p=>by rw [st_go,i_vjoin 1,Option.bind_some,stJ,← st_is v m n (i+1)];rfl
theorem told_in(Ls:List SCr)(sec:Bool)(b:List (List ISym))(v:List IVal)(m:List Bool)(hv:v.length≤1000)(hm:m.length≤1000)(q:Nat)(x:SCr)(hx:Ls[q]?=some x)(hLs:Ls.length≤1000)(hf:x.f2.length≤1000000)(e:Nat)(he:e≤v.length)(he':e≤m.length)(o0:List (List ISym))(o1:List IVal)(o2:List Bool)(h0:o0.length≤1000)(h1:o1.length≤1000)(h2:o2.length≤1000)(F:List (List ISym)×List IVal×List Bool)(K:Nat) :
    ∀ (n i k:Nat) (p:IVal×Bool),i+n=e→K+n+5<k→(∀ k,K≤k→spec_l11Told.l0 k Ls sec (e:Int) ((q+1:Nat):Int) b v m (o0++[x.f2]) (o1++[(stJ v m n i p).1]) (o2++[(stJ v m n i p).2])=some F) →
      spec_l11Told.l1 k Ls sec (q:Int) (e:Int) p.2 (i:Int) b v m o0 o1 o2 p.1.f0.f0 p.1.f0.f1 p.1.f1=some F
  |0,i,k,p,hi,hk,hF=>by
    obtain⟨k,rfl⟩:∃ m,k=m+1:=⟨k-1,by omega⟩
    have hql:=(List.getElem?_eq_some_iff.1 hx).1
    have hrd:rd_T98 Ls (q:Int)=x:=by unfold rd_T98;simp [List.getD,hx]
    rw [spec_l11Told.l1,if_neg (by omega),if_pos (by omega),if_pos (by omega),Option.bind_some,if_pos (by omega),if_pos (by omega),hrd,if_pos (by simp;omega),if_pos (by omega),w64s q (by omega)]
    exact hF k (by omega)
  |n+1,i,k,p,hi,hk,hF=>by
    obtain⟨k,rfl⟩:∃ m,k=m+1:=⟨k-1,by omega⟩
    obtain⟨k,rfl⟩:∃ m,k=m+2:=⟨k-2,by omega⟩
    rw [spec_l11Told.l1,if_pos (by omega),if_pos (by omega),if_pos (by omega),s_vjoin,Option.bind_some,w64s i (by omega)]
    have hr:=told_in Ls sec b v m hv hm q x hx hLs hf e he he' o0 o1 o2 h0 h1 h2 F K n (i+1) (k+2) (vj p.1 (rd_T60 v (i:Int)),p.2&&rdOf false m (i:Int)) (by omega) (by omega) hF
    cases hp:p.2 with
    |true =>
      rw [hp,Bool.true_and]at hr
      rw [if_pos rfl,if_pos (by omega)]
      exact hr
    |false =>
      rw [hp,Bool.false_and]at hr
      rw [if_neg (by decide)]
      exact hr
theorem range_snoc{α:Type}(f:Nat→α)(k:Nat):(List.range k).map f++[f k]=(List.range (k+1)).map f:=by rw [List.range_succ,List.map_append,List.map_cons,List.map_nil]
set_option maxRecDepth 100000 in
theorem told_l(L:List ICr)(sec:Bool)(b:List (List ISym))(v:List IVal)(m:List Bool)(hv:v.length≤1000)(hm:m.length≤1000)(hL:L.length≤1000)(hf:∀ x∈L,x.f2.length≤1000000)(P:Nat→Nat)(R:Nat→IVal×Bool)(hP:∀ q x,L[q]?=some x→(if sec=true then x.f1 else x.f0)=(P q:Int))
    (hm1:∀ q,q+1<L.length→P q≤P (q+1)∧P (q+1)≤v.length∧P (q+1)≤m.length) (hR:∀ q,q+1<L.length→R q=stJ v m (P (q+1)-P q) (P q) (⟨⟨1,0⟩,true⟩,true)) :
    ∀ (d q k:Nat) (was:Int),q+d=L.length→(q=0∨was=(P (q-1):Int))→3000*(d+1)<k→spec_l11Told.l0 k (L.map sC) sec was (q:Int) b v m (al_bl L q) (al_vl R (q-1)) (al_ml R (q-1))=some (al_bl L L.length,al_vl R (L.length-1),al_ml R (L.length-1))
  |0,q,k,was,hd,_,hk=>by
    obtain⟨k,rfl⟩:∃ m,k=m+1:=⟨k-1,by omega⟩
    obtain rfl:q=L.length:=by omega
    rw [spec_l11Told.l0,if_neg (by rw [List.length_map];omega)]
  |d+1,q,k,was,hd,hw,hk=>by
    obtain⟨k,rfl⟩:∃ m,k=m+2:=⟨k-2,by omega⟩
    have hql:q<L.length:=by omega
    obtain⟨x,hx⟩:∃ x,L[q]?=some x:=⟨L[q],List.getElem?_eq_getElem hql⟩
    have hxm:(L.map sC)[q]?=some (sC x):=by rw [List.getElem?_map,hx];rfl
    have hrd:rd_T98 (L.map sC) (q:Int)=sC x:=by unfold rd_T98;simp [List.getD,hx]
    have hrd2:(rd_T92 L (q:Int)).f2=x.f2:=by unfold rd_T92;simp [List.getD,hx]
    have hxP:=hP q x hx
    have hxf:=hf x (List.mem_of_getElem? hx)
    have L0:(al_bl L q).length=q:=by simp [al_bl]
    have L1:(al_vl R (q-1)).length=q-1:=by simp [al_vl]
    have L2:(al_ml R (q-1)).length=q-1:=by simp [al_ml]
    have hb1:al_bl L q++[x.f2]=al_bl L (q+1):=by rw [← hrd2];exact range_snoc _ q
    have e:(if sec=true then spec_l11Told.j1 (k+1) (L.map sC) sec was (q:Int) (rd_T98 (L.map sC) (q:Int)).f1 b v m (al_bl L q) (al_vl R (q-1)) (al_ml R (q-1))else spec_l11Told.j1 (k+1) (L.map sC) sec was (q:Int) (rd_T98 (L.map sC) (q:Int)).f0 b v m (al_bl L q) (al_vl R (q-1)) (al_ml R (q-1)))=spec_l11Told.j1 (k+1) (L.map sC) sec was (q:Int) (P q:Int) b v m (al_bl L q) (al_vl R (q-1)) (al_ml R (q-1)):=by
      rw [hrd,← hxP]
      cases sec<;>rfl
    rw [spec_l11Told.l0,if_pos (by rw [List.length_map];omega),if_pos (by omega),e,spec_l11Told.j1]
    by_cases h0:q=0
    · subst h0
      rw [if_neg (by omega),Option.bind_some,if_pos (by omega),if_pos (by rw [List.length_map];omega),hrd,if_pos (by simp [sC];omega),if_pos (by omega),w64s 0 (by omega)]
      have hz:=told_l L sec b v m hv hm hL hf P R hP hm1 hR d 1 k (P 0:Int) (by omega) (.inr rfl) (by omega)
      rw [← hb1]at hz
      exact hz
    · have hwas:was=(P (q-1):Int):=by rcases hw with h|h;exact absurd h h0;exact h
      have hm2:=hm1 (q-1) (by omega)
      have hR2:=hR (q-1) (by omega)
      rw [show q-1+1=q by omega]at hm2 hR2
      rw [if_pos (by omega),spec_l09None.f,spec_l06None.f,Option.bind_some,Option.bind_some,hwas]
      refine told_in (L.map sC) sec b v m hv hm q (sC x) hxm (by rw [List.length_map];exact hL) hxf (P q) hm2.2.1 hm2.2.2 _ _ _ (by omega) (by omega) (by omega) _ (3000*(d+1)+1) (P q-P (q-1)) (P (q-1)) k (⟨⟨1,0⟩,true⟩,true) (by omega) (by omega) (fun k hk=>?_)
      have hz:=told_l L sec b v m hv hm hL hf P R hP hm1 hR d (q+1) k (P q:Int) (by omega) (.inr rfl) (by omega)
      rw [← hb1,show q+1-1=(q-1)+1 by omega,al_vl,al_ml,← range_snoc,← range_snoc,hR2]at hz
      exact hz
theorem told_is(L:List ICr)(sec:Bool)(b:List (List ISym))(v:List IVal)(m:List Bool)(hv:v.length≤1000)(hm:m.length≤1000)(hL:L.length≤1000)(hf:∀ x∈L,x.f2.length≤1000000)(P:Nat→Nat)(R:Nat→IVal×Bool)(hP:∀ q x,L[q]?=some x→(if sec=true then x.f1 else x.f0)=(P q:Int))
    (hm1:∀ q,q+1<L.length→P q≤P (q+1)∧P (q+1)≤v.length∧P (q+1)≤m.length) (hR:∀ q,q+1<L.length→R q=stJ v m (P (q+1)-P q) (P q) (⟨⟨1,0⟩,true⟩,true)) (k:Nat) (hk:4000000<k):spec_l11Told.f k b v m (L.map sC) sec=some (al_bl L L.length,al_vl R (L.length-1),al_ml R (L.length-1)) :=
  told_l L sec b v m hv hm hL hf P R hP hm1 hR L.length 0 k 0 (by omega) (.inl rfl) (by omega)
end Go.Proofs.YtcdeojfeebmonaaDoor.Q
namespace Go.Proofs.YtcdeojfeebmonaaDoor.Q
open Go.RowKit Go.Proofs.YtcdeojfeebmonaaDoorW.PrintWords Go.Proofs.YtcdeojfeebmonaaDoorW.PrintLast Go.Proofs.YtcdeojfeebmonaaDoorW.PrintMore
open Go.Proofs.YtcdeojfeebmonaaDoor.Open
set_option linter.unusedSimpArgs false
set_option linter.unusedVariables false
theorem nd_len{α:Type}:∀ (T B:List α),T.Nodup→(∀ x∈T,x∈B)→T.length≤B.length∧(B.Nodup→T.length=B.length→∀ x∈B,x∈T)
  | [],B,_,_=>⟨Nat.zero_le _,fun _ h=>by
      obtain rfl:=List.eq_nil_of_length_eq_zero h.symm
      intro x hx
      exact hx⟩
  |a :: T,B,hT,hs=>by
    obtain⟨hna,hT'⟩:=List.nodup_cons.1 hT
    obtain⟨s,u,rfl⟩:=List.append_of_mem (hs a (List.mem_cons_self ..))
    have hs':∀ x∈T,x∈s++u:=fun x hx=>by
      have h1:=hs x (List.mem_cons_of_mem _ hx)
      simp only [List.mem_append,List.mem_cons]at h1 ⊢
      rcases h1 with h1|h1|h1
      · exact .inl h1
      · subst h1;exact absurd hx hna
      · exact .inr h1
    obtain⟨h1,h2⟩:=nd_len T (s++u) hT' hs'
    simp only [List.length_append,List.length_cons]at h1 ⊢
    refine⟨by omega,fun hB he x hx=>?_⟩
    have hB':(s++u).Nodup:=by
      have h3:List.Sublist (s++u) (s++a :: u):=List.Sublist.append (List.Sublist.refl s) (List.sublist_cons_self a u)
      exact hB.sublist h3
    have h4:=h2 hB' (by simp only [List.length_append];omega)
    simp only [List.mem_append,List.mem_cons]at hx
    rcases hx with hx|hx|hx
    · exact List.mem_cons_of_mem _ (h4 x (List.mem_append.2 (.inl hx)))
    · subst hx;exact List.mem_cons_self ..
    · exact List.mem_cons_of_mem _ (h4 x (List.mem_append.2 (.inr hx)))
def crR(x y:ICr):Prop:=x.f0≤y.f0∧x.f1≤y.f1∧(x.f0<y.f0∨x.f1<y.f1)
def crOk(al bs:List (List ISym))(x:ICr):Prop:=∃ (a b:Nat) (r s:List ISym),al[a]?=some r∧bs[b]?=some s∧x=⟨a,b,cr_t r s⟩∧0<(cr_t r s).length
structure CrG (al bs:List (List ISym)) (i j:Nat) (out:List ICr):Prop where
  ok:∀ x∈out,crOk al bs x
  pw:out.Pairwise crR
  lt:∀ x∈out,x.f0<(i:Int)∨x.f0=(i:Int)∧x.f1<(j:Int)
theorem last_of{out:List ICr}(h:¬ out.length=0):∃ l x,out=l++[x]∧rd_T92 out ((out.length:Int)-1)=x:=by
  obtain⟨l,x,rfl⟩:∃ l x,out=l++[x]:=⟨out.dropLast,out.getLast (fun h0=>h (by rw [h0];rfl)),(List.dropLast_concat_getLast _).symm⟩
  refine⟨l,x,rfl,?_⟩
  unfold rd_T92
  rw [List.length_append,List.length_singleton,show(((l.length+1:Nat):Int)-1).toNat=l.length by omega]
  simp [List.getD]
theorem CrG.step{al bs:List (List ISym)}{i j:Nat}{out:List ICr}{one two:List ISym}(h:CrG al bs i j out)(hi:al[i]?=some one)(hj:bs[j]?=some two):CrG al bs i (j+1) (cr_step (i:Int) (j:Int) one two out):=by
  have h0:CrG al bs i (j+1) out:=⟨h.ok,h.pw,fun x hx=>by rcases h.lt x hx with h1|⟨h1,h2⟩;exact .inl h1;exact .inr ⟨h1,by omega⟩⟩
  have h1:∀ (_:0<(cr_t one two).length) (_:∀ x∈out,x.f1≤(j:Int)),CrG al bs i (j+1) (out++[⟨i,j,cr_t one two⟩]):=fun hp hl=>by
    refine⟨fun x hx=>?_,?_,fun x hx=>?_⟩
    · rcases List.mem_append.1 hx with hx|hx
      · exact h.ok x hx
      · rw [List.mem_singleton]at hx;subst hx;exact⟨i,j,one,two,hi,hj,rfl,hp⟩
    · rw [List.pairwise_append]
      refine⟨h.pw,List.pairwise_singleton _ _,fun x hx y hy=>?_⟩
      rw [List.mem_singleton]at hy
      subst hy
      rcases h.lt x hx with h2|⟨h2,h3⟩
      · exact⟨Int.le_of_lt h2,hl x hx,.inl h2⟩
      · exact⟨by show x.f0≤(i:Int);omega,hl x hx,.inr h3⟩
    · rcases List.mem_append.1 hx with hx|hx
      · exact h0.lt x hx
      · rw [List.mem_singleton]at hx;subst hx;exact .inr ⟨rfl,by show(j:Int)<((j+1:Nat):Int);omega⟩
  unfold cr_step
  by_cases c1:0<(cr_t one two).length
  · rw [if_pos c1]
    by_cases c2:out.length=0
    · rw [if_pos c2]
      exact h1 c1 (fun x hx=>by rw [List.eq_nil_of_length_eq_zero c2]at hx;cases hx)
    · rw [if_neg c2]
      obtain⟨l,x0,he,hr⟩:=last_of c2
      rw [hr]
      by_cases c3:x0.f1≤(j:Int)
      · rw [if_pos c3]
        refine h1 c1 (fun x hx=>?_)
        have hpw:=h.pw
        rw [he,List.pairwise_append]at hpw
        rw [he]at hx
        rcases List.mem_append.1 hx with hx|hx
        · have:=(hpw.2.2 x hx x0 (List.mem_singleton.2 rfl)).2.1
          omega
        · rw [List.mem_singleton]at hx;subst hx;exact c3
      · rw [if_neg c3]
        exact h0
  · rw [if_neg c1]
    exact h0
theorem CrG.row{al bs:List (List ISym)}{i:Nat}{one:List ISym}(hi:al[i]?=some one):∀ (t:List (List ISym)) (j:Nat) (out:List ICr),bs.drop j=t→CrG al bs i j out→CrG al bs i bs.length (cr_row (i:Int) one t j out)
  | [],j,out,hd,h=>by
    rw [cr_row]
    have hl:=drop_nil hd
    exact⟨h.ok,h.pw,fun x hx=>by
      rcases h.lt x hx with h1|⟨h1,_⟩
      · exact .inl h1
      · obtain⟨a,b,r,s,_,hb,rfl,_⟩:=h.ok x hx
        have:=(List.getElem?_eq_some_iff.1 hb).1
        exact .inr ⟨h1,by show(b:Int)<(bs.length:Int);omega⟩⟩
  |two :: t,j,out,hd,h=>by
    obtain⟨q1,q2,q3⟩:=drop_cons hd
    rw [cr_row]
    exact CrG.row hi t (j+1) _ q3 (h.step hi q2)
theorem CrG.all{al bs:List (List ISym)}:∀ (t:List (List ISym)) (i:Nat) (out:List ICr),al.drop i=t→CrG al bs i 0 out→CrG al bs al.length 0 (cr_all bs t i out)
  | [],i,out,hd,h=>by
    rw [cr_all]
    have hl:=drop_nil hd
    exact⟨h.ok,h.pw,fun x hx=>by
      obtain⟨a,b,r,s,ha,_,rfl,_⟩:=h.ok x hx
      have:=(List.getElem?_eq_some_iff.1 ha).1
      exact .inl (by show(a:Int)<(al.length:Int);omega)⟩
  |one :: t,i,out,hd,h=>by
    obtain⟨q1,q2,q3⟩:=drop_cons hd
    rw [cr_all]
    have h1:=CrG.row q2 bs 0 out rfl h
    exact CrG.all t (i+1) _ q3 ⟨h1.ok,h1.pw,fun x hx=>.inl (by rcases h1.lt x hx with h2|⟨h2,_⟩<;>omega)⟩
theorem cut_sub(out:List ICr):List.Sublist (cr_cut out) out:=by
  unfold cr_cut
  by_cases c:16<out.length
  · rw [if_pos c]
    obtain⟨l,x,he,hr⟩:=last_of (out:=out) (by omega)
    rw [hr,he]
    rw [he,List.length_append,List.length_singleton]at c
    rw [List.take_append_of_le_length (by omega)]
    exact List.Sublist.append (List.take_sublist _ _) (List.Sublist.refl _)
  · rw [if_neg c]
    exact List.Sublist.refl _
theorem cut_len(out:List ICr):(cr_cut out).length≤16:=by
  unfold cr_cut
  by_cases c:16<out.length
  · rw [if_pos c,List.length_append,List.length_take,List.length_singleton];omega
  · rw [if_neg c];omega
theorem L_ok(al bs:List (List ISym)):(∀ x∈impl_SegLeq.L al bs,crOk al bs x)∧(impl_SegLeq.L al bs).Pairwise crR∧(impl_SegLeq.L al bs).length≤16:=by
  have h:=CrG.all (al:=al) (bs:=bs) al 0 [] rfl ⟨fun x hx=>(by cases hx),List.Pairwise.nil,fun x hx=>(by cases hx)⟩
  exact⟨fun x hx=>h.ok x ((cut_sub _).mem hx),h.pw.sublist (cut_sub _),cut_len _⟩
theorem lessB_trans{x y z:ISym}(h1:lessB x y=true)(h2:lessB y z=true):lessB x z=true:=by
  unfold lessB at *
  simp only [Bool.or_eq_true,Bool.and_eq_true,decide_eq_true_eq]at *
  omega
theorem lessB_irr{x:ISym}:lessB x x=false:=by
  unfold lessB
  simp
theorem terms_rise{size:Int}{all:List ISym}:∀ {t:List ISym} {p:Option ISym},termsB size all p t=true→(∀ y,p=some y→∀ x∈t,lessB y x=true)∧t.Nodup
  | [],_,_=>⟨fun _ _ _ hx=>(by cases hx),List.nodup_nil⟩
  |x :: t,p,h=>by
    rw [termsB]at h
    simp only [Bool.and_eq_true]at h
    obtain⟨h1,h2⟩:=terms_rise h.2
    have h3:=h1 x rfl
    refine⟨fun y hy z hz=>?_,List.nodup_cons.2 ⟨fun hx=>?_,h2⟩⟩
    · subst hy
      have hyx:lessB y x=true:=h.1.1.2
      rcases List.mem_cons.1 hz with rfl|hz
      · exact hyx
      · exact lessB_trans hyx (h3 z hz)
    · have:=h3 x hx
      rw [lessB_irr]at this
      cases this
theorem bounds_nodup{size:Int}:∀ {b:List (List ISym)} {all:List ISym},boundsB size all b=true→b.flatten.Nodup∧∀ x∈b.flatten,x ∉ all
  | [],_,_=>⟨List.nodup_nil,fun _ hx=>(by cases hx)⟩
  |r :: t,all,h=>by
    rw [boundsB]at h
    simp only [Bool.and_eq_true]at h
    obtain⟨h1,h2⟩:=bounds_nodup h.2
    have h3:=(terms_rise h.1.2).2
    have h4:∀ x∈r,x ∉ all:=fun x hx hxa=>by
      have:=terms_apart h.1.2 hx
      rw [hasS_mem hxa]at this
      cases this
    rw [List.flatten_cons]
    refine⟨List.nodup_append.2 ⟨h3,h1,fun x hx y hy he=>?_⟩,fun x hx hxa=>?_⟩
    · subst he
      exact h2 x hy (List.mem_append.2 (.inr hx))
    · rcases List.mem_append.1 hx with hx|hx
      · exact h4 x hx hxa
      · exact h2 x hx (List.mem_append.2 (.inl hxa))
theorem row_one{b:List (List ISym)}(h:b.flatten.Nodup){i j:Nat}{r s:List ISym}(hi:b[i]?=some r)(hj:b[j]?=some s){x:ISym}(hr:x∈r)(hs:x∈s):i=j:=by
  rw [List.Nodup,List.pairwise_flatten]at h
  have h2:=List.pairwise_iff_getElem.1 h.2
  obtain⟨i1,i2⟩:=List.getElem?_eq_some_iff.1 hi
  obtain⟨j1,j2⟩:=List.getElem?_eq_some_iff.1 hj
  rcases Nat.lt_trichotomy i j with hlt|heq|hgt
  · exact absurd rfl (h2 i j i1 j1 hlt x (by rw [i2];exact hr) x (by rw [j2];exact hs))
  · exact heq
  · exact absurd rfl (h2 j i j1 i1 hgt x (by rw [j2];exact hs) x (by rw [i2];exact hr))
theorem t_mem{one two:List ISym}{x:ISym}(h:x∈cr_t one two):x∈one∧x∈two:=by
  unfold cr_t at h
  rw [List.mem_filter]at h
  refine⟨h.1,?_⟩
  have h2:=h.2
  rw [Bool.not_not,mem_has,hasS_iff]at h2
  exact h2
end Go.Proofs.YtcdeojfeebmonaaDoor.Q
namespace Go.Proofs.YtcdeojfeebmonaaDoor.Q
open Go.RowKit Go.Proofs.YtcdeojfeebmonaaDoorW.PrintWords Go.Proofs.YtcdeojfeebmonaaDoorW.PrintLast Go.Proofs.YtcdeojfeebmonaaDoorW.PrintMore
open Go.Proofs.YtcdeojfeebmonaaDoor.Open
set_option linter.unusedSimpArgs false
set_option linter.unusedVariables false
def vleq(x y:IVal):Bool:=leqR x.f0.f0 x.f0.f1 y.f0.f0 y.f0.f1&&(x.f1 || !y.f1)
theorem i_vl(x y:IVal):impl_ValLeq.f x.f0.f0 x.f0.f1 x.f1 y.f0.f0 y.f0.f1 y.f1=some (vleq x y):=i_vleq _ _ _ _ _ _
theorem s_vl(x y:IVal):spec_ValLeq.f x.f0.f0 x.f0.f1 x.f1 y.f0.f0 y.f0.f1 y.f1=some (vleq x y):=s_vleq _ _ _ _ _ _
def inB(yb:List (List ISym))(x:ISym):Bool:=decide (0≤inS yb x.f0 x.f1 0)
theorem inS_iff(x y:Int):∀ (b:List (List ISym)) (i:Nat),0≤inS b x y i↔∃ r∈b,hasS r x y=true
  | [],i=>by unfold inS;simp
  |r :: t,i=>by
    unfold inS
    by_cases h:hasS r x y=true
    · rw [if_pos h]
      exact⟨fun _=>⟨r,List.mem_cons_self ..,h⟩,fun _=>by omega⟩
    · rw [if_neg h,inS_iff x y t (i+1)]
      constructor
      · rintro ⟨s,hs,h2⟩;exact⟨s,List.mem_cons_of_mem _ hs,h2⟩
      · rintro ⟨s,hs,h2⟩
        rcases List.mem_cons.1 hs with rfl|hs
        · exact absurd h2 h
        · exact⟨s,hs,h2⟩
theorem inB_iff(yb:List (List ISym))(x:ISym):inB yb x=true↔x∈yb.flatten:=by
  unfold inB
  rw [decide_eq_true_eq,inS_iff,List.mem_flatten]
  constructor
  · rintro ⟨r,hr,h⟩;exact⟨r,hr,by have:=hasS_iff.1 h;cases x;exact this⟩
  · rintro ⟨r,hr,h⟩;exact⟨r,hr,hasS_mem h⟩
set_option maxRecDepth 100000 in
theorem leq_row(bs:List (List ISym))(vb:List IVal)(mb:List Bool)(xb:List (List ISym))(xv:List IVal)(xm:List Bool)(yb:List (List ISym))(yv:List IVal)(ym:List Bool)(hY:SmallS yb yv ym)(hbs:bs.length≤1000)(i:Nat)(r:List ISym)(hi:bs[i]?=some r)(hr:r.length≤1000)(F:Bool)(K:Nat)(hF:∀ k,K≤k→spec_l11Leq.l0 k ((i+1:Nat):Int) bs vb mb xb xv xm yb yv ym=some F) :
    ∀ (t:List ISym) (q k:Nat),r.drop q=t→t.length+2097300+K<k→spec_l11Leq.l1 k (i:Int) (q:Int) bs vb mb xb xv xm yb yv ym=some (if t.all (inB yb)=true then F else false)
  | [],q,k,hd,hk=>by
    have hql:=drop_nil hd
    have hil:=(List.getElem?_eq_some_iff.1 hi).1
    obtain⟨k,rfl⟩:∃ m,k=m+1:=⟨k-1,by omega⟩
    rw [spec_l11Leq.l1,if_pos (by omega),if_pos (by omega),rd_irow hi,if_neg (by omega),w64s i (by omega)]
    exact hF k (by omega)
  |x :: t,q,k,hd,hk=>by
    obtain⟨q1,q2,q3⟩:=drop_cons hd
    have hil:=(List.getElem?_eq_some_iff.1 hi).1
    obtain⟨k,rfl⟩:∃ m,k=m+1:=⟨k-1,by omega⟩
    simp only [List.length_cons]at hk
    rw [spec_l11Leq.l1,if_pos (by omega),if_pos (by omega),rd_irow hi,if_pos (by omega),if_pos (by omega),rd_isym q2,s_in hY x.f0 x.f1 k (by omega),Option.bind_some,w64s q (by omega),leq_row bs vb mb xb xv xm yb yv ym hY hbs i r hi hr F K hF t (q+1) k q3 (by omega),List.all_cons]
    unfold inB
    by_cases h:inS yb x.f0 x.f1 0<0
    · rw [if_pos h,decide_eq_false (by omega),Bool.false_and];rfl
    · rw [if_neg h,decide_eq_true (by omega),Bool.true_and]
set_option maxRecDepth 100000 in
theorem leq_rows(bs:List (List ISym))(vb:List IVal)(mb:List Bool)(xb:List (List ISym))(xv:List IVal)(xm:List Bool)(yb:List (List ISym))(yv:List IVal)(ym:List Bool)(hY:SmallS yb yv ym)(hbs:bs.length≤1000)(hr:∀ r∈bs,r.length≤1000)(G:Bool)(K:Nat)(hG:∀ k,K≤k→spec_l11Leq.l2 k 0 xb xv xm yb yv ym=some G) :
    ∀ (t:List (List ISym)) (i k:Nat),bs.drop i=t→2099000*(t.length+1)+K<k→spec_l11Leq.l0 k (i:Int) bs vb mb xb xv xm yb yv ym=some (if t.flatten.all (inB yb)=true then G else false)
  | [],i,k,hd,hk=>by
    have hil:=drop_nil hd
    obtain⟨k,rfl⟩:∃ m,k=m+1:=⟨k-1,by omega⟩
    rw [spec_l11Leq.l0,if_neg (by omega)]
    exact hG k (by have h0:([]:List (List ISym)).length=0:=rfl;omega)
  |r :: t,i,k,hd,hk=>by
    obtain⟨q1,q2,q3⟩:=drop_cons hd
    obtain⟨k,rfl⟩:∃ m,k=m+1:=⟨k-1,by omega⟩
    simp only [List.length_cons]at hk
    have hrl:=hr r (List.mem_of_getElem? q2)
    have h0:=leq_row bs vb mb xb xv xm yb yv ym hY hbs i r q2 hrl _ (2099000*(t.length+1)+(K+1)) (fun k hk=>leq_rows bs vb mb xb xv xm yb yv ym hY hbs hr G K hG t (i+1) k q3 (by omega)) r 0 k rfl (by omega)
    rw [show((0:Nat):Int)=0 from rfl]at h0
    rw [spec_l11Leq.l0,if_pos (by omega),h0,List.flatten_cons,List.all_append]
    cases r.all (inB yb)with
    |true=>rw [if_pos rfl,Bool.true_and]
    |false=>rw [if_neg (by decide),Bool.false_and,if_neg (by decide)]
theorem leq_vals(xb:List (List ISym))(xv:List IVal)(xm:List Bool)(yb:List (List ISym))(yv:List IVal)(ym:List Bool)(hn:xv.length≤1000)(h1:yv.length=xv.length)(h2:xm.length=xv.length)(h3:ym.length=xv.length)(QV:Nat→Bool)(hQ:∀ q,q<xv.length→QV q=vleq (rd_T60 xv (q:Int)) (rd_T60 yv (q:Int))) :
    ∀ (n i k:Nat),i+n=xv.length→n<k→spec_l11Leq.l2 k (i:Int) xb xv xm yb yv ym=some (sl_go (sl_f QV xm ym) n i)
  |0,i,k,hi,hk=>by
    obtain⟨k,rfl⟩:∃ m,k=m+1:=⟨k-1,by omega⟩
    rw [spec_l11Leq.l2,if_neg (by omega)]
    rfl
  |n+1,i,k,hi,hk=>by
    obtain⟨k,rfl⟩:∃ m,k=m+1:=⟨k-1,by omega⟩
    rw [spec_l11Leq.l2,if_pos (by omega),if_pos (by omega),if_pos (by omega),s_vl,Option.bind_some,w64s i (by omega),leq_vals xb xv xm yb yv ym hn h1 h2 h3 QV hQ n (i+1) k (by omega) (by omega),sl_go]
    have hq:=hQ i (by omega)
    unfold sl_f at *
    rw [hq]
    rw [if_pos (show(i:Int)<(xm.length:Int) by omega),if_pos (show(i:Int)<(ym.length:Int) by omega)]
    cases vleq (rd_T60 xv (i:Int)) (rd_T60 yv (i:Int))<;>cases rdOf false xm (i:Int)<;>cases rdOf false ym (i:Int)<;>simp
end Go.Proofs.YtcdeojfeebmonaaDoor.Q
namespace Go.Proofs.YtcdeojfeebmonaaDoor.Q
open Go.RowKit Go.Proofs.YtcdeojfeebmonaaDoorW.PrintWords Go.Proofs.YtcdeojfeebmonaaDoorW.PrintLast Go.Proofs.YtcdeojfeebmonaaDoorW.PrintMore
open Go.Proofs.YtcdeojfeebmonaaDoor.Open
set_option linter.unusedSimpArgs false
set_option linter.unusedVariables false
theorem size_segN(N:Int)(hN:0≤N)(hN2:N≤1048576)(b:List (List LSym))(v:List LVal)(m:List Bool)(hb:b.length≤maxLen)(hr:∀ r∈b,r.length≤maxLen)(hv:v.length≤maxLen)(hm:m.length≤maxLen) :
    ∃ r,(∀ k,1048577<k→laws_szSeg.f k b v m N=some r)∧r≤N∧(0≤r→b.length≤1048576∧(∀ x∈b,x.length≤1048576)∧v.length≤1048576∧m.length≤1048576):=by
  simp only [maxLen]at hb hr hv hm
  have e0:wrap64 (N-(b.length:Int))=N-(b.length:Int):=w64 (by omega) (by omega)
  by_cases h1:N-(b.length:Int)<0
  · exact⟨-1,fun k _=>by rw [laws_szSeg.f,laws_szSymSS.f,e0,if_pos h1,Option.bind_some,if_pos (by decide)],by omega,fun h=>by omega⟩
  · have hs:=fun k hk=>sz_symSS b (by omega) (fun x hx=>by have:=hr x hx;omega) b.length 0 k (N-(b.length:Int)) (by omega) (by omega) (by omega) hk
    obtain⟨r0,q1,q2,q3⟩:=hs (b.length+1) (by omega)
    have q1':∀ k,1048577<k→laws_szSymSS.l0 k b (N-(b.length:Int)) 0=some r0:=by
      intro k hk
      obtain⟨r',p1,_,_⟩:=hs k (by omega)
      have up:∀ n,laws_szSymSS.l0 (b.length+1+n) b (N-(b.length:Int)) 0=some r0:=by
        intro n
        induction n with
        |zero=>exact q1
        |succ n ih=>exact laws_szSymSS.mono_l _ _ _ _ _ ih
      have:=up (k-(b.length+1))
      rwa [show b.length+1+(k-(b.length+1))=k by omega]at this
    by_cases h2:r0<0
    · exact⟨-1,fun k hk=>by rw [laws_szSeg.f,laws_szSymSS.f,e0,if_neg h1,q1' k hk,Option.bind_some,if_pos h2],by omega,fun h=>by omega⟩
    · have e1:wrap64 (r0-(v.length:Int))=r0-(v.length:Int):=w64 (by omega) (by omega)
      by_cases h3:r0-(v.length:Int)<0
      · exact⟨-1,fun k hk=>by rw [laws_szSeg.f,laws_szSymSS.f,e0,if_neg h1,q1' k hk,Option.bind_some,if_neg h2,laws_szValS.f,e1,if_pos h3,Option.bind_some,if_pos (by decide)],by omega,fun h=>by omega⟩
      · have e2:wrap64 (r0-(v.length:Int)-(m.length:Int))=r0-(v.length:Int)-(m.length:Int):=w64 (by omega) (by omega)
        by_cases h4:r0-(v.length:Int)-(m.length:Int)<0
        · exact⟨-1,fun k hk=>by rw [laws_szSeg.f,laws_szSymSS.f,e0,if_neg h1,q1' k hk,Option.bind_some,if_neg h2,laws_szValS.f,e1,if_neg h3,Option.bind_some,if_neg h3,laws_szBoolS.f,e2,if_pos h4,Option.bind_some,if_pos (by decide)],by omega,fun h=>by omega⟩
        · refine⟨r0-(v.length:Int)-(m.length:Int),fun k hk=>by rw [laws_szSeg.f,laws_szSymSS.f,e0,if_neg h1,q1' k hk,Option.bind_some,if_neg h2,laws_szValS.f,e1,if_neg h3,Option.bind_some,if_neg h3,laws_szBoolS.f,e2,if_neg h4,Option.bind_some,if_neg h4],by omega,fun _=>⟨by omega,fun x hx=>q3 (by omega) x (by simpa using hx),by omega,by omega⟩⟩
theorem terms_l(b:List (List ISym))(v:List IVal)(m:List Bool)(hb:b.length≤1000)(hr:∀ r∈b,r.length≤1000):∀ (t:List (List ISym)) (i k:Nat) (s:Nat),b.drop i=t→s≤i*1000→t.length<k→impl_Seg_terms.l0 k (s:Int) b (b.length:Int) (i:Int)=some (((s+(t.map List.length).sum:Nat)):Int)
  | [],i,k,s,hd,hs,hk=>by
    have hil:=drop_nil hd
    obtain⟨k,rfl⟩:∃ m,k=m+1:=⟨k-1,by omega⟩
    rw [impl_Seg_terms.l0,if_neg (by omega)]
    simp
  |r :: t,i,k,s,hd,hs,hk=>by
    obtain⟨q1,q2,q3⟩:=drop_cons hd
    obtain⟨k,rfl⟩:∃ m,k=m+1:=⟨k-1,by omega⟩
    simp only [List.length_cons]at hk
    have hrl:=hr r (List.mem_of_getElem? q2)
    have hw:wrap64 ((s:Int)+(r.length:Int))=((s+r.length:Nat):Int):=by rw [w64 (by omega) (by omega)];omega
    rw [impl_Seg_terms.l0,if_pos (by omega),if_pos (by omega),if_pos (by omega),rd_irow q2,hw,w64s i (by omega),terms_l b v m hb hr t (i+1) k (s+r.length) q3 (by omega) (by omega),List.map_cons,List.sum_cons,Nat.add_assoc]
theorem terms_is(b:List (List ISym))(v:List IVal)(m:List Bool)(hb:b.length≤1000)(hr:∀ r∈b,r.length≤1000)(k:Nat)(hk:1000<k):impl_Seg_terms.f k b v m=some (impl_SegLeq.T b):=by
  have h:=terms_l b v m hb hr b 0 k 0 rfl (by omega) (by omega)
  rw [Nat.zero_add]at h
  exact h
theorem rd_cr92(L:List ICr){q:Nat}(h:q<L.length):rd_T92 L (q:Int)=L[q]:=by unfold rd_T92;simp [List.getD,h]
set_option maxRecDepth 100000 in
theorem leq_is(size l:Int)(al:List (List ISym))(va:List IVal)(ma:List Bool)(bs:List (List ISym))(vb:List IVal)(mb:List Bool)(ga:GoodS size al va ma)(ea:EndS size l al)(gb:GoodS size bs vb mb)(eb:EndS size l bs)(k:Nat)(hk:3000000000<k) :
    impl_SegLeq.C k al va ma bs vb mb∧spec_l11Leq.f k al va ma bs vb mb=some (impl_SegLeq.A al va ma bs vb mb):=by
  obtain⟨hok,hpw,hlen⟩:=L_ok al bs
  have rga:=ga.rows;have rgb:=gb.rows;have vga:=ga.vals;have vgb:=gb.vals;have fga:=ga.flags;have fgb:=gb.flags
  have hx:∀ q (hq:q<(impl_SegLeq.L al bs).length),rd_T92 (impl_SegLeq.L al bs) (q:Int)=(impl_SegLeq.L al bs)[q]∧(impl_SegLeq.L al bs)[q].f0=(impl_SegLeq.I (impl_SegLeq.L al bs) q:Int)∧(impl_SegLeq.L al bs)[q].f1=(impl_SegLeq.J (impl_SegLeq.L al bs) q:Int)∧(impl_SegLeq.L al bs)[q].f2.length≤40∧impl_SegLeq.I (impl_SegLeq.L al bs) q<al.length∧impl_SegLeq.J (impl_SegLeq.L al bs) q<bs.length:=fun q hq=>by
    have h1:=rd_cr92 (impl_SegLeq.L al bs) hq
    unfold impl_SegLeq.I impl_SegLeq.J
    rw [h1]
    obtain⟨a,b,r,s,ha,hb,he,_⟩:=hok _ (List.getElem_mem hq)
    have ha1:=(List.getElem?_eq_some_iff.1 ha).1
    have hb1:=(List.getElem?_eq_some_iff.1 hb).1
    have h40:=ga.short r (List.mem_of_getElem? ha)
    have hlt:(cr_t r s).length≤r.length:=List.length_filter_le _ _
    rw [he]
    exact⟨rfl,by show(a:Int)=((Int.toNat (a:Int):Nat):Int);omega,by show(b:Int)=((Int.toNat (b:Int):Nat):Int);omega,by show(cr_t r s).length≤40;omega,by show Int.toNat (a:Int)<al.length;omega,by show Int.toNat (b:Int)<bs.length;omega⟩
  have hmm:∀ q,q+1<(impl_SegLeq.L al bs).length→impl_SegLeq.I (impl_SegLeq.L al bs) q≤impl_SegLeq.I (impl_SegLeq.L al bs) (q+1)∧impl_SegLeq.J (impl_SegLeq.L al bs) q≤impl_SegLeq.J (impl_SegLeq.L al bs) (q+1):=fun q hq=>by
    obtain⟨_,x1,x2,_⟩:=hx q (by omega)
    obtain⟨_,y1,y2,_⟩:=hx (q+1) hq
    have h:=List.pairwise_iff_getElem.1 hpw q (q+1) (by omega) hq (Nat.lt_succ_self q)
    unfold crR at h
    rw [x1,x2,y1,y2]at h
    omega
  have hm1:∀ q,q+1<(impl_SegLeq.L al bs).length→impl_SegLeq.I (impl_SegLeq.L al bs) q≤impl_SegLeq.I (impl_SegLeq.L al bs) (q+1)∧impl_SegLeq.I (impl_SegLeq.L al bs) (q+1)≤va.length∧impl_SegLeq.I (impl_SegLeq.L al bs) (q+1)≤ma.length:=fun q hq=>by
    have:=hmm q hq;have:=(hx (q+1) hq).2.2.2.2.1;omega
  have hm2:∀ q,q+1<(impl_SegLeq.L al bs).length→impl_SegLeq.J (impl_SegLeq.L al bs) q≤impl_SegLeq.J (impl_SegLeq.L al bs) (q+1)∧impl_SegLeq.J (impl_SegLeq.L al bs) (q+1)≤vb.length∧impl_SegLeq.J (impl_SegLeq.L al bs) (q+1)≤mb.length:=fun q hq=>by
    have:=hmm q hq;have:=(hx (q+1) hq).2.2.2.2.2;omega
  have hR1:∀ q,impl_SegLeq.R1 al bs va ma q=stJ va ma (impl_SegLeq.I (impl_SegLeq.L al bs) (q+1)-impl_SegLeq.I (impl_SegLeq.L al bs) q) (impl_SegLeq.I (impl_SegLeq.L al bs) q) (⟨⟨1,0⟩,true⟩,true):=fun q=>by unfold impl_SegLeq.R1 impl_SegLeq.R;rw [st_is];rfl
  have hR2:∀ q,impl_SegLeq.R2 al bs vb mb q=stJ vb mb (impl_SegLeq.J (impl_SegLeq.L al bs) (q+1)-impl_SegLeq.J (impl_SegLeq.L al bs) q) (impl_SegLeq.J (impl_SegLeq.L al bs) q) (⟨⟨1,0⟩,true⟩,true):=fun q=>by unfold impl_SegLeq.R2 impl_SegLeq.R;rw [st_is];rfl
  have hQ:∀ q,impl_SegLeq.Q (impl_SegLeq.R1 al bs va ma) (impl_SegLeq.R2 al bs vb mb) q=vleq (impl_SegLeq.R1 al bs va ma q).1 (impl_SegLeq.R2 al bs vb mb q).1:=fun q=>by unfold impl_SegLeq.Q;rw [i_vl];rfl
  have hbl:∀ r∈al_bl (impl_SegLeq.L al bs) (impl_SegLeq.L al bs).length,r.length≤40:=fun r hr=>by
    unfold al_bl at hr
    obtain⟨q,hq,rfl⟩:=List.mem_map.1 hr
    obtain⟨h1,_,_,h2,_⟩:=hx q (List.mem_range.1 hq)
    rw [h1];exact h2
  have hbn:(al_bl (impl_SegLeq.L al bs) (impl_SegLeq.L al bs).length).length≤16:=by simp only [al_bl,List.length_map,List.length_range];exact hlen
  have hlv1:(al_vl (impl_SegLeq.R1 al bs va ma) ((impl_SegLeq.L al bs).length-1)).length=(impl_SegLeq.L al bs).length-1:=by simp [al_vl]
  have hlv2:(al_vl (impl_SegLeq.R2 al bs vb mb) ((impl_SegLeq.L al bs).length-1)).length=(impl_SegLeq.L al bs).length-1:=by simp [al_vl]
  have hlm1:(al_ml (impl_SegLeq.R1 al bs va ma) ((impl_SegLeq.L al bs).length-1)).length=(impl_SegLeq.L al bs).length-1:=by simp [al_ml]
  have hlm2:(al_ml (impl_SegLeq.R2 al bs vb mb) ((impl_SegLeq.L al bs).length-1)).length=(impl_SegLeq.L al bs).length-1:=by simp [al_ml]
  have hC:impl_SegLeq.C k al va ma bs vb mb :=
    { la:=by omega
      lb:=by omega
      ra:=fun r hr=>⟨List.length_pos_iff.2 (ea.full r hr),by have:=ga.short r hr;omega⟩
      rb:=fun r hr=>by have:=gb.short r hr;omega
      z:=⟨by omega,by omega,by omega,by omega⟩
      n:=hlen
      i:=fun q hq=>by obtain⟨h1,h2,h3,h4,_⟩:=hx q hq;rw [h1];exact⟨h2,h3,by omega⟩
      m1:=hm1
      m2:=hm2
      t1:=fun q _=>by rw [st_is,← hR1]
      t2:=fun q _=>by rw [st_is,← hR2]
      s1:=terms_is _ _ _ (by omega) (fun r hr=>by have:=hbl r hr;omega) k (by omega)
      s2:=terms_is _ _ _ (by omega) (fun r hr=>by have:=gb.short r hr;omega) k (by omega)
      q:=fun q _=>by rw [i_vl,hQ] }
  refine⟨hC,?_⟩
  have hLf:∀ x∈impl_SegLeq.L al bs,x.f2.length≤1000000:=fun x hxm=>by
    obtain⟨q,hq,rfl⟩:=List.mem_iff_getElem.1 hxm
    have:=(hx q hq).2.2.2.1
    omega
  have hP1:∀ q x,(impl_SegLeq.L al bs)[q]?=some x→(if false=true then x.f1 else x.f0)=(impl_SegLeq.I (impl_SegLeq.L al bs) q:Int):=fun q x h=>by
    obtain⟨hq,rfl⟩:=List.getElem?_eq_some_iff.1 h
    rw [if_neg (by decide)]
    exact(hx q hq).2.1
  have hP2:∀ q x,(impl_SegLeq.L al bs)[q]?=some x→(if true=true then x.f1 else x.f0)=(impl_SegLeq.J (impl_SegLeq.L al bs) q:Int):=fun q x h=>by
    obtain⟨hq,rfl⟩:=List.getElem?_eq_some_iff.1 h
    rw [if_pos rfl]
    exact(hx q hq).2.2.1
  have hA:spec_l11Align.f k al va ma bs vb mb=some (al_bl (impl_SegLeq.L al bs) (impl_SegLeq.L al bs).length,al_vl (impl_SegLeq.R1 al bs va ma) ((impl_SegLeq.L al bs).length-1),al_ml (impl_SegLeq.R1 al bs va ma) ((impl_SegLeq.L al bs).length-1),al_bl (impl_SegLeq.L al bs) (impl_SegLeq.L al bs).length,al_vl (impl_SegLeq.R2 al bs vb mb) ((impl_SegLeq.L al bs).length-1),al_ml (impl_SegLeq.R2 al bs vb mb) ((impl_SegLeq.L al bs).length-1)):=by
    rw [spec_l11Align.f,kept_is al bs va vb ma mb (by omega) (by omega) (fun r hr=>by have:=ga.short r hr;omega) (fun r hr=>by have:=gb.short r hr;omega) k (by omega),Option.bind_some,
      told_is (impl_SegLeq.L al bs) false al va ma (by omega) (by omega) (by omega) hLf (impl_SegLeq.I (impl_SegLeq.L al bs)) (impl_SegLeq.R1 al bs va ma) hP1 hm1 (fun q _=>hR1 q) k (by omega),Option.bind_some,
      told_is (impl_SegLeq.L al bs) true bs vb mb (by omega) (by omega) (by omega) hLf (impl_SegLeq.J (impl_SegLeq.L al bs)) (impl_SegLeq.R2 al bs vb mb) hP2 hm2 (fun q _=>hR2 q) k (by omega),Option.bind_some]
  rw [spec_l11Leq.f,hA,Option.bind_some]
  have hrd:∀ (R:Nat→IVal×Bool) (q n:Nat),q<n→rd_T60 (al_vl R n) (q:Int)=(R q).1:=fun R q n hq=>by unfold rd_T60 al_vl;simp [List.getD,hq]
  have hY:SmallS (al_bl (impl_SegLeq.L al bs) (impl_SegLeq.L al bs).length) (al_vl (impl_SegLeq.R2 al bs vb mb) ((impl_SegLeq.L al bs).length-1)) (al_ml (impl_SegLeq.R2 al bs vb mb) ((impl_SegLeq.L al bs).length-1)):=⟨by omega,fun r hr=>by have:=hbl r hr;omega,by omega,by omega⟩
  have h0:=leq_rows bs vb mb (al_bl (impl_SegLeq.L al bs) (impl_SegLeq.L al bs).length) (al_vl (impl_SegLeq.R1 al bs va ma) ((impl_SegLeq.L al bs).length-1)) (al_ml (impl_SegLeq.R1 al bs va ma) ((impl_SegLeq.L al bs).length-1)) (al_bl (impl_SegLeq.L al bs) (impl_SegLeq.L al bs).length) (al_vl (impl_SegLeq.R2 al bs vb mb) ((impl_SegLeq.L al bs).length-1)) (al_ml (impl_SegLeq.R2 al bs vb mb) ((impl_SegLeq.L al bs).length-1)) hY (by omega) (fun r hr=>by have:=gb.short r hr;omega) _ 100
    (fun k hk=>leq_vals _ _ _ _ _ _ (by omega) (by omega) (by omega) (by omega) (impl_SegLeq.Q (impl_SegLeq.R1 al bs va ma) (impl_SegLeq.R2 al bs vb mb)) (fun q hq=>by rw [hlv1]at hq;rw [hrd _ q _ hq,hrd _ q _ hq,hQ]) ((impl_SegLeq.L al bs).length-1) 0 k (by omega) (by omega)) bs 0 k rfl (by omega)
  refine Eq.trans h0 ?_
  congr 1
  have nda:=(bounds_nodup ea.bnd).1
  have ndb:=(bounds_nodup eb.bnd).1
  have hget:∀ q (hq:q<(al_bl (impl_SegLeq.L al bs) (impl_SegLeq.L al bs).length).length),∃ h:q<(impl_SegLeq.L al bs).length,(al_bl (impl_SegLeq.L al bs) (impl_SegLeq.L al bs).length)[q]=(impl_SegLeq.L al bs)[q].f2:=fun q hq=>by
    have h:q<(impl_SegLeq.L al bs).length:=by simpa [al_bl]using hq
    refine⟨h,?_⟩
    simp only [al_bl,List.getElem_map,List.getElem_range]
    rw [(hx q h).1]
  have ndT:(al_bl (impl_SegLeq.L al bs) (impl_SegLeq.L al bs).length).flatten.Nodup:=by
    rw [List.Nodup,List.pairwise_flatten]
    refine⟨fun r hr=>?_,List.pairwise_iff_getElem.2 (fun i j hi hj hij x hxi y hyj he=>?_)⟩
    · obtain⟨q,hq,rfl⟩:=List.mem_iff_getElem.1 hr
      obtain⟨h,e⟩:=hget q hq
      obtain⟨a,b,r,s,ha,_,he,_⟩:=hok _ (List.getElem_mem h)
      rw [e,he]
      rw [List.Nodup,List.pairwise_flatten]at nda
      exact List.Pairwise.filter _ (nda.1 r (List.mem_of_getElem? ha))
    · obtain⟨h1,e1⟩:=hget i hi
      obtain⟨h2,e2⟩:=hget j hj
      obtain⟨a,b,r,s,ha,hb,he1,_⟩:=hok _ (List.getElem_mem h1)
      obtain⟨a',b',r',s',ha',hb',he2,_⟩:=hok _ (List.getElem_mem h2)
      rw [e1,he1]at hxi
      rw [e2,he2]at hyj
      subst he
      have hab:=row_one nda ha ha' (t_mem hxi).1 (t_mem hyj).1
      have hbb:=row_one ndb hb hb' (t_mem hxi).2 (t_mem hyj).2
      have h:=List.pairwise_iff_getElem.1 hpw i j h1 h2 hij
      rw [he1,he2]at h
      unfold crR at h
      simp only at h
      omega
  have hsub:∀ x∈(al_bl (impl_SegLeq.L al bs) (impl_SegLeq.L al bs).length).flatten,x∈bs.flatten:=fun x hxm=>by
    obtain⟨r,hr,hxr⟩:=List.mem_flatten.1 hxm
    obtain⟨q,hq,rfl⟩:=List.mem_iff_getElem.1 hr
    obtain⟨h,e⟩:=hget q hq
    obtain⟨a,b,r,s,_,hb,he,_⟩:=hok _ (List.getElem_mem h)
    rw [e,he]at hxr
    exact List.mem_flatten.2 ⟨s,List.mem_of_getElem? hb,(t_mem hxr).2⟩
  have hT:∀ b:List (List ISym),impl_SegLeq.T b=(b.flatten.length:Int):=fun b=>by unfold impl_SegLeq.T;rw [List.length_flatten]
  have hiff:bs.flatten.all (inB (al_bl (impl_SegLeq.L al bs) (impl_SegLeq.L al bs).length))=true↔impl_SegLeq.T (al_bl (impl_SegLeq.L al bs) (impl_SegLeq.L al bs).length)=impl_SegLeq.T bs:=by
    rw [hT,hT,List.all_eq_true]
    have n1:=nd_len _ _ ndT hsub
    constructor
    · intro h
      have n2:=nd_len _ _ ndb (fun x hx=>(inB_iff _ x).1 (h x hx))
      omega
    · intro h x hx
      exact(inB_iff _ x).2 (n1.2 ndb (by omega) x hx)
  unfold impl_SegLeq.A sl_res
  by_cases hc:impl_SegLeq.T (al_bl (impl_SegLeq.L al bs) (impl_SegLeq.L al bs).length)=impl_SegLeq.T bs
  · rw [if_pos (hiff.2 hc),if_pos hc]
  · rw [if_neg (fun h=>hc (hiff.1 h)),if_neg hc]
end Go.Proofs.YtcdeojfeebmonaaDoor.Q
