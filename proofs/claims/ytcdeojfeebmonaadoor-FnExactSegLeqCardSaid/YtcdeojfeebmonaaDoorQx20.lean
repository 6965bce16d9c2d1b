/- Functions of the translation as Lean functions, each with a proof that a call answers so; out of the seat, by this claim's own program prt.py. -/
import Derived.Test.YtcdeojfeebmonaaDoorWTab
import Derived.Test.YtcdeojfeebmonaaDoorWRepsOne
import Derived.Test.YtcdeojfeebmonaaDoorWGuard
import Derived.Test.YtcdeojfeebmonaaDoorQx0
import Derived.Test.YtcdeojfeebmonaaDoorQx17
import Derived.Test.YtcdeojfeebmonaaDoorQx18
import Derived.Test.YtcdeojfeebmonaaDoorQx19
import Derived.Test.YtcdeojfeebmonaaDoorQStep3
namespace Go.Proofs.YtcdeojfeebmonaaDoor.Q
open Go.RowKit Go.Proofs.YtcdeojfeebmonaaDoorW.PrintWords Go.Proofs.YtcdeojfeebmonaaDoorW.PrintLast Go.Proofs.YtcdeojfeebmonaaDoorW.PrintMore
attribute [local go_sem] max2_int min2_int max_two min_two max_three min_three max_four min_four
set_option linter.unusedVariables false
set_option maxHeartbeats 8000000
set_option maxRecDepth 100000
set_option linter.unusedSimpArgs false
mutual
def impl_SegOk.j0:Nat→Int→Int→Int→Bool→List (List (S53))→List (S60)→List Bool→Option (Bool)
 |0,_,_,_,_,_,_,_=>none
 |k+1,x0,x1,x7,x42,aX,bp,bu=>if x42=true then(some false)else(impl_SegOk.l0 k x0 x1 x7 (([]:List (S53))) aX (aX.length:Int) 0 aX bp bu)
def impl_SegOk.l0:Nat→Int→Int→Int→List (S53)→List (List (S53))→Int→Int→List (List (S53))→List (S60)→List Bool→Option (Bool)
 |0,_,_,_,_,_,_,_,_,_,_=>none
 |k+1,x0,x1,x7,x8,x45,x46,x47,aX,bp,bu=>if x47<x46 then(if 0≤x47 then(if x47<(x45.length:Int)then(impl_SegOk.l1 k x0 x1 x7 x8 (rd_L7 x45 x47) x45 x46 x47 (rd_L7 x45 x47) ((rd_L7 x45 x47).length:Int) 0 aX bp bu)else(none))else(none))else((impl_ends.f x1).bind fun cz=>(if 0<(aX.length:Int)then((impl_Sym_53.f k (rd_L7 aX 0) cz.1 cz.2.1).bind fun dq=>(if dq=true then(if 0≤(wrap64 (x7-1))then(if(wrap64 (x7-1))<(aX.length:Int)then((impl_Sym_53.f k (rd_L7 aX (wrap64 (x7-1))) cz.2.2.1 cz.2.2.2).bind fun cW=>(if cW=true then((slices_ContainsFunc__impl_SegOk_1.f k bp).bind fun cJ=>(some (!cJ)))else(some false)))else(none))else(none))else(some false)))else(none)))
def impl_SegOk.l1:Nat→Int→Int→Int→List (S53)→List (S53)→List (List (S53))→Int→Int→List (S53)→Int→Int→List (List (S53))→List (S60)→List Bool→Option (Bool)
 |0,_,_,_,_,_,_,_,_,_,_,_,_,_,_=>none
 |k+1,x0,x1,x7,x8,x10,x45,x46,x47,x51,x52,x53,aX,bp,bu=>if x53<x52 then(if 0≤x53 then(if x53<(x51.length:Int)then((impl_SymOk.f x0 ((rd_T53 x51 x53).f0) ((rd_T53 x51 x53).f1)).bind fun dn=>(if dn=true then(if x53 > 0 then(if 0≤(wrap64 (x53-1))then(if(wrap64 (x53-1))<(x10.length:Int)then((impl_SymLess.f ((rd_T53 x10 (wrap64 (x53-1))).f0) ((rd_T53 x10 (wrap64 (x53-1))).f1) ((rd_T53 x51 x53).f0) ((rd_T53 x51 x53).f1)).bind fun cU=>(if cU=true then((impl_Sym_53.f k x8 ((rd_T53 x51 x53).f0) ((rd_T53 x51 x53).f1)).bind fun cV=>(if cV=true then(some false)else(impl_SegOk.l1 k x0 x1 x7 x8 x10 x45 x46 x47 x51 x52 (wrap64 (x53+1)) aX bp bu)))else(some false)))else(none))else(none))else((impl_Sym_53.f k x8 ((rd_T53 x51 x53).f0) ((rd_T53 x51 x53).f1)).bind fun dp=>(if dp=true then(some false)else(impl_SegOk.l1 k x0 x1 x7 x8 x10 x45 x46 x47 x51 x52 (wrap64 (x53+1)) aX bp bu))))else(some false)))else(none))else(none))else(if(x10.length:Int)=0 then(some false)else(if x8.length+x10.length<8796093022208 then((some (x8++x10:List (S53))).bind fun bS=>(if(bS.length:Int) > 40 then(some false)else(impl_SegOk.l0 k x0 x1 x7 bS x45 x46 (wrap64 (x47+1)) aX bp bu)))else(none)))
end
def impl_SegOk.f(k:Nat)(a0:Int)(a1:Int)(ac:List (List (S53)))(aG:List (S60))(aT:List Bool):Option (Bool):=(impl_isShape.f a0 a1).bind fun cS=>(if cS=true then((impl_inRange.f (ac.length:Int) 1 16).bind fun cT=>(if cT=true then(if(aG.length:Int)=(wrap64 ((ac.length:Int)-1))then(impl_SegOk.j0 k a0 a1 (ac.length:Int) ((aT.length:Int) !=(wrap64 ((ac.length:Int)-1))) ac aG aT)else(impl_SegOk.j0 k a0 a1 (ac.length:Int) true ac aG aT))else(impl_SegOk.j0 k a0 a1 (ac.length:Int) true ac aG aT)))else(impl_SegOk.j0 k a0 a1 (ac.length:Int) true ac aG aT))
theorem impl_SegOk.mono_l:∀ k,(∀ y0 y1 y2 y3 y4 y5 y6,LeO (impl_SegOk.j0 k y0 y1 y2 y3 y4 y5 y6) (impl_SegOk.j0 (k+1) y0 y1 y2 y3 y4 y5 y6))∧(∀ y0 y1 y2 y3 y4 y5 y6 y7 y8 y9,LeO (impl_SegOk.l0 k y0 y1 y2 y3 y4 y5 y6 y7 y8 y9) (impl_SegOk.l0 (k+1) y0 y1 y2 y3 y4 y5 y6 y7 y8 y9))∧(∀ y0 y1 y2 y3 y4 y5 y6 y7 y8 y9 fQ fR fS fT,LeO (impl_SegOk.l1 k y0 y1 y2 y3 y4 y5 y6 y7 y8 y9 fQ fR fS fT) (impl_SegOk.l1 (k+1) y0 y1 y2 y3 y4 y5 y6 y7 y8 y9 fQ fR fS fT))
 |0=>⟨fun _ _ _ _ _ _ _ r h=>by simp [impl_SegOk.j0]at h,fun _ _ _ _ _ _ _ _ _ _ r h=>by simp [impl_SegOk.l0]at h,fun _ _ _ _ _ _ _ _ _ _ _ _ _ _ r h=>by simp [impl_SegOk.l1]at h⟩
 |k+1=>by
  obtain⟨ih0,ih1,ih2⟩:=impl_SegOk.mono_l k;refine⟨?_,?_,?_⟩
  all_goals (intros;first|unfold impl_SegOk.j0|unfold impl_SegOk.l0|unfold impl_SegOk.l1)
  all_goals repeat' first
   |(with_reducible exact ih0 _ _ _ _ _ _ _)|(with_reducible exact ih1 _ _ _ _ _ _ _ _ _ _)|(with_reducible exact ih2 _ _ _ _ _ _ _ _ _ _ _ _ _ _)|(with_reducible exact impl_Sym_53.mono _ _ _ _)|(with_reducible exact slices_ContainsFunc__impl_SegOk_1.mono _ _)|(with_reducible exact LeO.refl _)|(with_reducible exact LeO.none _)|(with_reducible refine LeO.ite ?_ ?_)|(with_reducible refine LeO.bind ?_ fun _=>?_)|exact ih0 _ _ _ _ _ _ _|exact ih1 _ _ _ _ _ _ _ _ _ _|exact ih2 _ _ _ _ _ _ _ _ _ _ _ _ _ _|exact impl_Sym_53.mono _ _ _ _|exact slices_ContainsFunc__impl_SegOk_1.mono _ _|exact LeO.none _|refine LeO.ite ?_ ?_|refine LeO.bind ?_ fun _=>?_
theorem impl_SegOk.mono:∀ a0 a1 a2 a3 a4 k,LeO (impl_SegOk.f k a0 a1 a2 a3 a4) (impl_SegOk.f (k+1) a0 a1 a2 a3 a4):=by
 intro a0 a1 a2 a3 a4 k;obtain⟨ih0,ih1,ih2⟩:=impl_SegOk.mono_l k;unfold impl_SegOk.f
 repeat' first
   |(with_reducible exact ih0 _ _ _ _ _ _ _)|(with_reducible exact ih1 _ _ _ _ _ _ _ _ _ _)|(with_reducible exact ih2 _ _ _ _ _ _ _ _ _ _ _ _ _ _)|(with_reducible exact impl_Sym_53.mono _ _ _ _)|(with_reducible exact slices_ContainsFunc__impl_SegOk_1.mono _ _)|(with_reducible exact LeO.refl _)|(with_reducible exact LeO.none _)|(with_reducible refine LeO.ite ?_ ?_)|(with_reducible refine LeO.bind ?_ fun _=>?_)|exact ih0 _ _ _ _ _ _ _|exact ih1 _ _ _ _ _ _ _ _ _ _|exact ih2 _ _ _ _ _ _ _ _ _ _ _ _ _ _|exact impl_Sym_53.mono _ _ _ _|exact slices_ContainsFunc__impl_SegOk_1.mono _ _|exact LeO.none _|refine LeO.ite ?_ ?_|refine LeO.bind ?_ fun _=>?_
def impl_SegOk.T11:Bool×List (List Nat×List Nat):=(true,[([],[]),([],[]),([0,1],[0,1]),([2],[2]),([3,2],[3]),([4],[4]),([5,4],[4,5]),([6,4,4],[4,6]),([7],[7]),([7],[7]),([9,7],[7,9]),([8,10,7],[7,8,10]),([11,7],[7,11]),([7],[7]),([12,13,7,7],[7,12,13]),([14,7],[7,14]),([7,15,4],[4,7,15]),([4,16],[4,16]),([17,14],[17]),([18],[18]),([18],[18]),([19,20,18,18],[18,19,20]),([18,21],[18,21])])
def impl_SegOk.B11:List Nat:=[0,0,3,7,15,31,63,127,255,255,767,2047,4095,255,16383,32767,65535,131071,262143,524287,524287,2097151,4194303]
theorem impl_SegOk.tab11:rtab .any (opsOf Tryd.f34 11)=impl_SegOk.T11:=by kernel_rfl
theorem impl_SegOk.bits11:waitsOk impl_SegOk.T11.2 impl_SegOk.B11=true:=by kernel_rfl
def impl_SegOk.T21:Bool×List (List Nat×List Nat):=(true,[([],[]),([0],[0]),([1],[1]),([2],[2]),([],[]),([3,4],[3,4]),([5,5],[5]),([6],[6]),([7,6],[6,7]),([6],[6]),([9,6],[6,9]),([8,10,6],[6,8,10]),([11,6],[6,11]),([6],[6]),([12,13,6,6],[6,12,13]),([6,14],[6,14]),([15,14],[15]),([16],[16]),([17,16],[16,17]),([18,16,16],[16,18]),([19,16],[16,19]),([16,20],[16,20]),([21,19,0,1,2,3,4,5,6,7,8,9,10,11,12,13,14,15,16,17,18,19,20,21],[21])])
def impl_SegOk.B21:List Nat:=[0,1,3,7,0,31,63,127,255,127,639,2047,4095,127,16383,32767,65535,131071,262143,524287,1048575,2097151,4194303]
theorem impl_SegOk.tab21:rtab .any (opsOf Tryd.f34 21)=impl_SegOk.T21:=by kernel_rfl
theorem impl_SegOk.bits21:waitsOk impl_SegOk.T21.2 impl_SegOk.B21=true:=by kernel_rfl
theorem impl_SegOk.calls(k:Nat)(a0:Int)(a1:Int)(cb:Option Addr)(bF:Nat)(ac:List (List (S53)))(bA:Option Addr)(bB:Nat)(aG:List (S60))(bC:Option Addr)(bG:Nat)(aT:List Bool)(r:Bool)(w:World)(hG1:GL1 w)(di:Kd.C (Kd.slice 53 k53) w cb ac.length ac)(df:ac.length≤bF)(dj:Kd.C k60 w bA aG.length aG)(dg:aG.length≤bB)(dk:Kd.C Kd.bool w bC aT.length aT)(dh:aT.length≤bG)(h:impl_SegOk.f k a0 a1 ac aG aT=some r) :
  Calls Tryd.prog 34 #[.int .i64 a0,.int .i64 a1,.agg #[.slice cb ac.length bF,.slice bA aG.length bB,.slice bC aT.length bG]] w fun e w'=>e=.returned (.bool r)∧Below w.heap.size w w':=by
 have hu32:=Tryd.underlying32;have hu53:=Tryd.underlying53;have bT:=am_ di;have fy:=am_ df;clear di df;have dx:=am_ dj;have dt:=am_ dg;clear dj dg;have fA:=am_ dk;have fz:=am_ dh;clear dk dh;have HB:=am_ (Below.refl w.heap.size w);have HG1:=am_ hG1;clear hG1;have H:((impl_isShape.f a0 a1).bind fun cS=>(if cS=true then((impl_inRange.f (ac.length:Int) 1 16).bind fun cT=>(if cT=true then(if(aG.length:Int)=(wrap64 ((ac.length:Int)-1))then(impl_SegOk.j0 k a0 a1 (ac.length:Int) ((aT.length:Int) !=(wrap64 ((ac.length:Int)-1))) ac aG aT)else(impl_SegOk.j0 k a0 a1 (ac.length:Int) true ac aG aT))else(impl_SegOk.j0 k a0 a1 (ac.length:Int) true ac aG aT)))else(impl_SegOk.j0 k a0 a1 (ac.length:Int) true ac aG aT)))=some r:=h;clear h;have eT:=am_ H;clear H
 go_enter Tryd.func34,Tryd.ntmps34
 go_upto_region 2 with(first|((with_reducible refine gate_dst (N:=5) rfl ?_);(try(refine gate_guard (by rfl) ?_;dsimp only));refine box_y 5 #[.slice cb ac.length bF,.slice bA aG.length bB,.slice bC aT.length bG] 32 (h:=?_);intro bf hg w5 hbox hb;have af:=am_ hbox;have fx:=gz_ hg HB;have ak:=gz_ hg HB;replace HB:=hb_ HB hb;clear hb hbox hg;obtain⟨cj,ck,cl,cn,cp,cq⟩:=cz3_ af))
 (try simp only [Act.put,List.setIfInBounds_toArray,List.set_cons_zero,List.set_cons_succ])
 go_cut [42] (fun v42 wc=>∃ (kq:Nat) (cI:Bool),v42=.bool cI∧Aside0 (impl_SegOk.j0 kq a0 a1 (ac.length:Int) cI ac aG aT=some r)∧Aside0 (kq≤k)∧Aside0 (wc.heap[bf]?=some (.cells #[(.slice cb ac.length bF),(.slice bA aG.length bB),(.slice bC aT.length bG)] 32 (0,0)))∧Aside0 (Below w.heap.size w wc))
 case first =>
  have H:=eT.out;clear eT;obtain⟨cS,A7,H⟩:=be_ H;(try dsimp only at H)
  by_cases c8:cS=true
  ·
   subst c8;have H1:=ifp_ H
   clear H;have H:=H1;clear H1;obtain⟨cT,A9,H⟩:=be_ H;(try dsimp only at H)
   by_cases c10:cT=true
   ·
    subst c10;have H1:=ifp_ H
    clear H;have H:=H1;clear H1
    by_cases c11:(aG.length:Int)=(wrap64 ((ac.length:Int)-1))
    ·
     rw [if_pos c11]at H;have bK:((aG.length:Int) ==(wrap64 ((ac.length:Int)-1)))=true:=beq_iff_eq.mpr c11;have cA:((aG.length:Int) !=(wrap64 ((ac.length:Int)-1)))=false:=bne_eq_false_iff_eq.mpr c11;clear c11
     (first|rw [bK]|(simp only [i64_w,i32_w];rw [bK])|skip)
     have H':=am_ H;clear H
     go_wp2_with (first|((with_reducible refine gate_callee (f:=49) rfl ?_);refine gl_ 20 Tryd.func49 #[.int .i64 a0,.int .i64 a1] (h:=?_);(with_reducible refine(impl_isShape.calls a0 a1 true _ A7.out).mono ?_);rintro e w' ⟨rfl,⟨nd,rfl⟩⟩;refine⟨_,rfl,?_⟩)|(go_at_call 50;(with_reducible refine(impl_inRange.calls (ac.length:Int) 1 16 true _ A9.out).mono ?_);rintro e w' ⟨rfl,⟨nd,rfl⟩⟩;obtain⟨bV,bW,bX,b4,b5,b6⟩:=cz3_ af))
     go_meet
     case rel=>exact⟨_,(((aT.length:Int) !=(wrap64 ((ac.length:Int)-1)))),sr_,H',om_,bk_ af,⟨sq_below1 HB.out ak.out⟩⟩
    ·
     rw [if_neg c11]at H;have bK:((aG.length:Int) ==(wrap64 ((ac.length:Int)-1)))=false:=beq_eq_false_iff_ne.mpr c11;have cA:((aG.length:Int) !=(wrap64 ((ac.length:Int)-1)))=true:=bne_iff_ne.mpr c11
     (first|rw [bK]|(simp only [i64_w,i32_w];rw [bK])|skip)
     have H':=am_ H;clear H
     go_wp2_with (first|((with_reducible refine gate_callee (f:=49) rfl ?_);refine gl_ 20 Tryd.func49 #[.int .i64 a0,.int .i64 a1] (h:=?_);(with_reducible refine(impl_isShape.calls a0 a1 true _ A7.out).mono ?_);rintro e w' ⟨rfl,⟨nd,rfl⟩⟩;refine⟨_,rfl,?_⟩)|(go_at_call 50;(with_reducible refine(impl_inRange.calls (ac.length:Int) 1 16 true _ A9.out).mono ?_);rintro e w' ⟨rfl,⟨nd,rfl⟩⟩;obtain⟨bY,bZ,b3,b7,b8,b9⟩:=cz3_ af))
     go_meet
     case rel=>exact⟨_,(true),sr_,H',om_,bk_ af,⟨sq_below1 HB.out ak.out⟩⟩
   ·
    replace c10:=Bool.eq_false_iff.mpr c10;subst c10;have H1:=ifn_ H
    clear H;have H:=H1;clear H1;have H':=am_ H;clear H
    go_wp2_with (first|((with_reducible refine gate_callee (f:=49) rfl ?_);refine gl_ 20 Tryd.func49 #[.int .i64 a0,.int .i64 a1] (h:=?_);(with_reducible refine(impl_isShape.calls a0 a1 true _ A7.out).mono ?_);rintro e w' ⟨rfl,⟨nd,rfl⟩⟩;refine⟨_,rfl,?_⟩)|(go_at_call 50;(with_reducible refine(impl_inRange.calls (ac.length:Int) 1 16 false _ A9.out).mono ?_);rintro e w' ⟨rfl,⟨nd,rfl⟩⟩))
    go_meet
    case rel=>exact⟨_,(true),sr_,H',om_,bk_ af,⟨sq_below1 HB.out ak.out⟩⟩
  ·
   replace c8:=Bool.eq_false_iff.mpr c8;subst c8;have H1:=ifn_ H
   clear H;have H:=H1;clear H1;have H':=am_ H;clear H
   go_wp2_with (first|((with_reducible refine gate_callee (f:=49) rfl ?_);refine gl_ 20 Tryd.func49 #[.int .i64 a0,.int .i64 a1] (h:=?_);(with_reducible refine(impl_isShape.calls a0 a1 false _ A7.out).mono ?_);rintro e w' ⟨rfl,⟨nd,rfl⟩⟩;refine⟨_,rfl,?_⟩))
   go_meet
   case rel=>exact⟨_,(true),sr_,H',om_,bk_ af,⟨sq_below1 HB.out ak.out⟩⟩
 case rest =>
  clear eT
  obtain⟨kq,cI,rfl,HA,HJ3,af,HB⟩:=hcut;cases kq with
  |zero=>exact absurd HA.out (by simp [impl_SegOk.j0])
  |succ ft =>
   have H:=HA.out;clear HA;simp only [impl_SegOk.j0]at H
   by_cases c14:cI=true
   ·
    subst c14;have H1:=ifp_ H
    clear H;have H:=H1;clear H1;obtain rfl:=Option.some.inj H
    go_wp2
    go_ret
    exact⟨lf_,sq_below1 HB.out ak.out⟩
   ·
    replace c14:=Bool.eq_false_iff.mpr c14;subst c14;have H1:=ifn_ H
    clear H;have H:=H1;clear H1;obtain⟨ek,cg⟩:∃ y_:List (S53),y_=(([]:List (S53))):=⟨_,rfl⟩;replace H:(impl_SegOk.l0 ft a0 a1 (ac.length:Int) ek ac (ac.length:Int) 0 ac aG aT)=some r:=by first|(rw [cg];with_reducible exact H)|(have H2_:=(Option.bind_some _ _).symm.trans H;rw [cg];with_reducible exact H2_)|(have H2_:=(Option.bind_some _ _).symm.trans H;with_reducible exact H2_)|with_reducible exact H|(rw [cg];exact H)|exact H
    have dc:=am_ cg;clear cg;have H':=am_ H;clear H
    go_wp2_with (first|((with_reducible refine gate_dst (N:=43) rfl ?_);(try(refine gate_guard (by rfl) ?_;dsimp only));refine Kd.R_lit k53 _ 53 ?hg (N:=43) ?hd (xs:=([]:List (S53))) (inner:=[]) (ok:=fun _=>True) (okp:=fun _=>True) ?hr ?hp (fun _ hk=>hk) trivial (Below.refl _ _) (Nat.le_refl _) (by simp) ?_;(case hd=>rfl);(case hg=>rfl);(case hr=>first|(go_simp;done)|(go_simp;rfl));(case hp=>exact(Reps.none _ _));intro v403 gz cR hb hg_ hnew_;clear hg_ hnew_;(first|rw [← dc.out]at cR|(simp only [Int.reduceToNat]at cR;rw [← dc.out]at cR));have dw:=am_ (Kd.R_lower cR (below_size (sq_below1 HB.out ak.out)));replace af:=bb_ af hb;replace HB:=hb1_ HB hb ak;clear hb cR;obtain⟨cB,cC,cD,cF,cG,cH⟩:=cz3_ af))
    go_loopg [8,47] ft (fun kq v8 v47 w'=>∃ (a9:List (S53)) (aa:Int),v47=.int .i64 aa∧Aside0 (impl_SegOk.l0 kq a0 a1 (ac.length:Int) a9 ac (ac.length:Int) aa ac aG aT=some r)∧Aside0 (kq≤ft)∧Aside0 (Kd.R k53 53 w' w.heap.size (fun _=>True) v8 a9)∧Aside0 (w'.heap[bf]?=some (.cells #[(.slice cb ac.length bF),(.slice bA aG.length bB),(.slice bC aT.length bG)] 32 (0,0)))∧Aside0 (Below w.heap.size w w'))
    case atStart=>exact⟨(ek),(0),sr_,H',⟨Nat.le_refl _⟩,⟨by(with_reducible repeat(first|apply Kd.R_alloc|apply Kd.R_drewN|apply Kd.R_drew));exact dw.out⟩,bk_ af,⟨sq_below1 HB.out ak.out⟩⟩
    case round =>
     clear H'
     obtain⟨a9,aa,rfl,HA,HK2,ai,af,HB⟩:=hrel;cases gk with
     |zero=>exact absurd HA.out (by simp [impl_SegOk.l0])
     |succ k2 =>
      have H:=HA.out;clear HA;simp only [impl_SegOk.l0]at H
      by_cases c18:aa<(ac.length:Int)
      ·
       rw [if_pos c18]at H;have de:=decide_eq_true (p:=aa<(ac.length:Int)) c18;clear c18
       by_cases c19:0≤aa
       ·
        rw [if_pos c19]at H;have dy:=decide_eq_true (p:=0≤aa) c19;clear c19
        by_cases c20:aa<(ac.length:Int)
        ·
         rw [if_pos c20]at H;have dz:=decide_eq_true (p:=aa<(ac.length:Int)) c20;clear c20;have H':=am_ H;clear H;have cX:0≤(aa:Int):=sq_dec;have cY:aa<(ac.length:Int):=sq_dec;obtain⟨cN,eO,eU,eZ,ca,hl405_0,hi405_0⟩:=at_L7 bT.out aa cX cY;cases eZ;replace ca:=cb_ HB ca;have aY:=am_ hi405_0;have el:=am_ hl405_0;clear hi405_0 hl405_0;replace cX:=eq_true cX;replace cY:=eq_true cY
         go_wp2
         go_loopg [53] k2 (fun kq v53 w'=>∃ (ae:Int),v53=.int .i64 ae∧Aside0 (impl_SegOk.l1 kq a0 a1 (ac.length:Int) a9 (rd_L7 ac aa) ac (ac.length:Int) aa (rd_L7 ac aa) ((rd_L7 ac aa).length:Int) ae ac aG aT=some r)∧Aside0 (kq≤k2)∧Aside0 (Kd.R k53 53 w' w.heap.size (fun _=>True) u8 a9)∧Aside0 (w'.heap[bf]?=some (.cells #[(.slice (some cN) ac.length bF),(.slice bA aG.length bB),(.slice bC aT.length bG)] 32 (0,0)))∧Aside0 (Below w.heap.size w w'))
         case atStart=>exact⟨(0),sr_,H',⟨Nat.le_refl _⟩,⟨by(with_reducible repeat(first|apply Kd.R_alloc|apply Kd.R_drewN|apply Kd.R_drew));exact ai.out⟩,bk_ af,⟨sq_below1 HB.out ak.out⟩⟩
         case round =>
          clear H'
          obtain⟨ae,rfl,HA,HK3,ai,af,HB⟩:=hrel;cases gk with
          |zero=>exact absurd HA.out (by simp [impl_SegOk.l1])
          |succ k3 =>
           have H:=HA.out;clear HA;simp only [impl_SegOk.l1]at H
           by_cases c21:ae<((rd_L7 ac aa).length:Int)
           ·
            rw [if_pos c21]at H;have dA:=decide_eq_true (p:=ae<((rd_L7 ac aa).length:Int)) c21;clear c21
            by_cases c22:0≤ae
            ·
             rw [if_pos c22]at H;have fB:=decide_eq_true (p:=0≤ae) c22;clear c22
             by_cases c23:ae<((rd_L7 ac aa).length:Int)
             ·
              rw [if_pos c23]at H;have fC:=decide_eq_true (p:=ae<((rd_L7 ac aa).length:Int)) c23;clear c23;obtain⟨dn,A24,H⟩:=be_ H;(try dsimp only at H)
              by_cases c25:dn=true
              ·
               subst c25;have H1:=ifp_ H
               clear H;have H:=H1;clear H1
               by_cases c26:ae > 0
               ·
                rw [if_pos c26]at H;have dB:=decide_eq_true (p:=0<ae) c26;clear c26;obtain⟨aA,bH⟩:∃ j_:Int,(wrap64 (ae-1))=j_:=⟨_,rfl⟩;replace H:(if 0≤(aA)then(if(aA)<((rd_L7 ac aa).length:Int)then((impl_SymLess.f ((rd_T53 (rd_L7 ac aa) (aA)).f0) ((rd_T53 (rd_L7 ac aa) (aA)).f1) ((rd_T53 (rd_L7 ac aa) ae).f0) ((rd_T53 (rd_L7 ac aa) ae).f1)).bind fun cU=>(if cU=true then((impl_Sym_53.f k3 a9 ((rd_T53 (rd_L7 ac aa) ae).f0) ((rd_T53 (rd_L7 ac aa) ae).f1)).bind fun cV=>(if cV=true then(some false)else(impl_SegOk.l1 k3 a0 a1 (ac.length:Int) a9 (rd_L7 ac aa) ac (ac.length:Int) aa (rd_L7 ac aa) ((rd_L7 ac aa).length:Int) (wrap64 (ae+1)) ac aG aT)))else(some false)))else(none))else(none))=some r:=by first|(rw [bH]at H;exact H)|(simp only [bH]at H ⊢;exact H)
                (try rw [bH]at A24)
                have hji27w:(IntKind.i64.wrap (ae-1))=aA:=(i64_w _).trans bH
                by_cases c28:0≤(aA)
                ·
                 rw [if_pos c28]at H;have fD:=decide_eq_true (p:=0≤(aA)) c28;clear c28
                 by_cases c29:(aA)<((rd_L7 ac aa).length:Int)
                 ·
                  rw [if_pos c29]at H;have fE:=decide_eq_true (p:=(aA)<((rd_L7 ac aa).length:Int)) c29;clear c29;obtain⟨cU,A30,H⟩:=be_ H;(try dsimp only at H)
                  by_cases c31:cU=true
                  ·
                   subst c31;have H1:=ifp_ H
                   clear H;have H:=H1;clear H1;obtain⟨cV,A32,H⟩:=be_ H;(try dsimp only at H)
                   by_cases c33:cV=true
                   ·
                    subst c33;have H1:=ifp_ H
                    clear H;have H:=H1;clear H1;obtain rfl:=Option.some.inj H;have bi:0≤(ae:Int):=sq_dec;have bj:ae<((rd_L7 ac aa).length:Int):=sq_dec;obtain⟨bc,bN,aC,aD⟩:=at_T53 aY.out ae bi bj;cases bN;replace aC:=cb_ HB aC;replace aD:=cb_ HB aD;replace bi:=eq_true bi;replace bj:=eq_true bj
                    try go_wp2_with (first|((with_reducible refine gate_dst (N:=12) rfl ?_);(try(refine gate_guard (by rfl) ?_;dsimp only));refine box_y 12 #[.int .i64 0,.int .i64 0] 53 (h:=?_);intro ah hg eK hbox hb;replace ai:=am_ (Kd.R_below (Kd.R_elderB (sq_row ai.out) ah (Nat.le_of_eq hg.symm)) hb);have ag:=am_ hbox;have cd:=gz_ hg HB;have az:=gz_ hg HB;replace HB:=hb_ HB hb;clear hb hbox hg;obtain⟨em,en,ey,ez⟩:=cz2_ ag))
                    have n0_:Aside0 (Kd.R k53 53 ((eK.setCell ⟨ah,0,none⟩ (.int .i64 ((rd_T53 (rd_L7 ac aa) ae).f0))).setCell ⟨ah,1,none⟩ (.int .i64 ((rd_T53 (rd_L7 ac aa) ae).f1))) w.heap.size (fun k_=>k_≠ah) u8 a9):=⟨by(with_reducible repeat(first|apply Kd.R_alloc|apply Kd.R_drewN|apply Kd.R_drew));exact Kd.R_mono (Kd.R_far (p:=⟨ah,1,none⟩) (Kd.R_far (p:=⟨ah,0,none⟩) (Kd.R_mono ai.out (fun k_ hk=>(⟨hk,hk.2⟩:_∧k_≠ah))) (fun _ hk=>hk.2) (.int .i64 ((rd_T53 (rd_L7 ac aa) ae).f0))) (fun _ hk=>hk.2) (.int .i64 ((rd_T53 (rd_L7 ac aa) ae).f1))) (fun _ hk=>hk.1.2)⟩;have n1_:Aside0 (((eK.setCell ⟨ah,0,none⟩ (.int .i64 ((rd_T53 (rd_L7 ac aa) ae).f0))).setCell ⟨ah,1,none⟩ (.int .i64 ((rd_T53 (rd_L7 ac aa) ae).f1))).heap[ah]?=some (.cells #[.int .i64 ((rd_T53 (rd_L7 ac aa) ae).f0),.int .i64 ((rd_T53 (rd_L7 ac aa) ae).f1)] 53 (0,0))):=⟨by(with_reducible repeat(first|refine blk_drewN ?_ _|refine blk_drew ?_|refine blk_alloc ?_ _));refine blk_put (cs:=#[.int .i64 ((rd_T53 (rd_L7 ac aa) ae).f0),.int .i64 0]) ?_ 1 _ rfl;(with_reducible repeat(first|refine blk_drewN ?_ _|refine blk_drew ?_|refine blk_alloc ?_ _));refine blk_put (cs:=#[.int .i64 0,.int .i64 0]) ?_ 0 _ rfl;(with_reducible repeat(first|refine blk_drewN ?_ _|refine blk_drew ?_|refine blk_alloc ?_ _));exact ag.out⟩;have n2_:Aside0 (Below w.heap.size w ((eK.setCell ⟨ah,0,none⟩ (.int .i64 ((rd_T53 (rd_L7 ac aa) ae).f0))).setCell ⟨ah,1,none⟩ (.int .i64 ((rd_T53 (rd_L7 ac aa) ae).f1)))):=⟨sq_below1 HB.out az.out⟩
                    (try clear ai)
                    (try clear ag)
                    (try clear HB)
                    generalize ((eK.setCell ⟨ah,0,none⟩ (.int .i64 ((rd_T53 (rd_L7 ac aa) ae).f0))).setCell ⟨ah,1,none⟩ (.int .i64 ((rd_T53 (rd_L7 ac aa) ae).f1)))=gp at n0_ n1_ n2_ ⊢;have ai:=n0_;have ag:=n1_;have HB:=n2_;clear n0_ n1_ n2_;replace ai:=rd_ ai;replace ag:=bd_ ag;replace HB:=hd_ HB;have bO:0≤((aA):Int):=sq_dec;have bQ:(aA)<((rd_L7 ac aa).length:Int):=sq_dec;obtain⟨cf,cP,aM,aN⟩:=at_T53 aY.out (aA) bO bQ;have aV:=aN;have aU:=aM;obtain rfl:bc=cf:=(by injection cP);replace aM:=cb_ HB aM;replace aN:=cb_ HB aN;replace bO:=eq_true bO;replace bQ:=eq_true bQ;refine start_ (n:=23) (S:=fun w'=>w'.cell? ⟨ah,0,none⟩=some (.int .i64 ((rd_T53 (rd_L7 ac aa) ae).f0))∧w'.cell? ⟨ah,1,none⟩=some (.int .i64 ((rd_T53 (rd_L7 ac aa) ae).f1))∧w'.cell? (bc.add (((aA)).toNat*2))=some (.int .i64 ((rd_T53 (rd_L7 ac aa) (aA)).f0))∧w'.cell? ⟨(bc.add (((aA)).toNat*2)).block,(bc.add (((aA)).toNat*2)).off+1,none⟩=some (.int .i64 ((rd_T53 (rd_L7 ac aa) (aA)).f1))) (ds:=[]) #[false,false,false,false,false,false,false,false,false,false,false,false,false,false,false,false,false,false,false,false,false,false,false] (by kernel_rfl) rfl rfl ⟨cl_ ag 0,cl_ ag 1,(cb_ HB aU),(cb_ HB aV)⟩ (fun hHeld=>?_);refine with_tabW impl_SegOk.tab11 impl_SegOk.bits11 (fun HT_ HW_=>?_);generalize gp.drew=gE at ai ag HB aM aN hHeld ⊢;refine py_ HT_ 0 58 ?_
                    refine ty_ HT_ HW_ 1 59 rfl hHeld (by rintro w' ⟨s0,s1,s2,s3⟩;go_simp;with_reducible rfl) ?_
                    refine oy_ HT_ 2 (some 60) (fun K hK=>?_);refine gs_ Tryd.func51 #[.int .i64 a0,.agg #[.int .i64 ((rd_T53 (rd_L7 ac aa) ae).f0),.int .i64 ((rd_T53 (rd_L7 ac aa) ae).f1)]] (h:=?_);with_reducible refine(impl_SymOk.calls a0 ((rd_T53 (rd_L7 ac aa) ae).f0) ((rd_T53 (rd_L7 ac aa) ae).f1) true _ A24.out).mono ?_
                    rintro e gG ⟨rfl,hb⟩;refine⟨_,rfl,?_⟩;replace ai:=rb_ ai hb;replace ag:=bb_ ag hb;replace HB:=hb1_ HB hb az
                    (try clear hb)
                    (try clear hb2)
                    (try clear hk)
                    (try clear hi)
                    refine hK.out _ _ ⟨cl_ ag 0,cl_ ag 1,(cb_ HB aU),(cb_ HB aV)⟩ (fun hHeld=>?_);clear hK K;refine norm_y 60 (h:=?_)
                    refine py_ HT_ 3 61 ?_
                    refine py_ HT_ 4 62 ?_
                    refine py_ HT_ 5 63 ?_
                    refine py_ HT_ 6 64 ?_
                    refine py_ HT_ 7 65 ?_
                    refine py_ HT_ 8 66 ?_
                    refine py_ HT_ 9 67 ?_
                    refine py_ HT_ 10 68 ?_
                    refine py_ HT_ 11 69 ?_
                    refine ty_ HT_ HW_ 12 70 rfl hHeld (by rintro w' ⟨s0,s1,s2,s3⟩;go_simp;with_reducible rfl) ?_
                    refine ty_ HT_ HW_ 13 71 rfl hHeld (by rintro w' ⟨s0,s1,s2,s3⟩;go_simp;with_reducible rfl) ?_
                    refine oy_ HT_ 14 (some 72) (fun K hK=>?_);refine goes_ Tryd.func52 (by kernel_rfl) rfl #[.agg #[.int .i64 ((rd_T53 (rd_L7 ac aa) (aA)).f0),.int .i64 ((rd_T53 (rd_L7 ac aa) (aA)).f1)],.agg #[.int .i64 ((rd_T53 (rd_L7 ac aa) ae).f0),.int .i64 ((rd_T53 (rd_L7 ac aa) ae).f1)]] (by rfl) rfl rfl (by(try simp only [List.map_toArray,List.map_cons,List.map_nil]);first|done|(simp only [bH];rfl)|rfl|(simp only [List.length_drop,List.length_take];rfl)) ?_;with_reducible refine(impl_SymLess.calls ((rd_T53 (rd_L7 ac aa) (aA)).f0) ((rd_T53 (rd_L7 ac aa) (aA)).f1) ((rd_T53 (rd_L7 ac aa) ae).f0) ((rd_T53 (rd_L7 ac aa) ae).f1) true _ A30.out).mono ?_
                    rintro e gH ⟨rfl,hb⟩;refine⟨_,rfl,?_⟩;replace ai:=rb_ ai hb;replace ag:=bb_ ag hb;replace HB:=hb1_ HB hb az
                    (try clear hb)
                    (try clear hb2)
                    (try clear hk)
                    (try clear hi)
                    obtain⟨eP,eV,dG⟩:=Kd.R_slice ai.out
                    (first|subst dG|(injection dG with f1_ f2_ f3_;have f4_:=f1_.symm;have f5_:=f3_.symm;clear f1_ f2_ f3_;subst f4_;subst f5_))
                    refine hK.out _ _ ⟨cl_ ag 0,cl_ ag 1,(cb_ HB aU),(cb_ HB aV)⟩ (fun hHeld=>?_);clear hK K;refine norm_y 72 (h:=?_)
                    refine py_ HT_ 15 73 ?_
                    refine py_ HT_ 16 74 ?_
                    refine py_ HT_ 17 75 ?_
                    refine py_ HT_ 18 76 ?_
                    refine py_ HT_ 19 77 ?_
                    refine ty_ HT_ HW_ 20 78 rfl hHeld (by rintro w' ⟨s0,s1,s2,s3⟩;go_simp;with_reducible rfl) ?_
                    refine oy_ HT_ 21 (some 79) (fun K hK=>?_);refine gs_ Tryd.func53 #[.slice eP a9.length eV,.agg #[.int .i64 ((rd_T53 (rd_L7 ac aa) ae).f0),.int .i64 ((rd_T53 (rd_L7 ac aa) ae).f1)]] (h:=?_);with_reducible refine(impl_Sym_53.calls k3 _ _ a9 ((rd_T53 (rd_L7 ac aa) ae).f0) ((rd_T53 (rd_L7 ac aa) ae).f1) true _ ?aZ ?a8 A32.out).mono ?_
                    (case aZ=>exact sq_c ((Kd.R_reads' ai.out).2.2))
                    (case a8=>exact(Kd.R_reads' ai.out).2.1)
                    rintro e gI ⟨rfl,hb⟩;refine⟨_,rfl,?_⟩;replace ai:=rb_ ai hb;replace ag:=bb_ ag hb;replace HB:=hb1_ HB hb az
                    (try clear hb)
                    (try clear hb2)
                    (try clear hk)
                    (try clear hi)
                    refine hK.out _ _ ⟨cl_ ag 0,cl_ ag 1,(cb_ HB aU),(cb_ HB aV)⟩ (fun hHeld=>?_);clear hK K;refine norm_y 79 (h:=?_)
                    refine py_ HT_ 22 80 ?_
                    refine done_ (done_of HT_.out (by kernel_rfl)) ?_
                    try go_wp2
                    go_ret
                    exact⟨by first|rfl|(simp [errW_none,errW_some]<;>rfl)|(simp only [← bH];first|rfl|(simp [errW_none,errW_some]<;>rfl))|(simp [*,errW_none,errW_some]<;>rfl),sq_below1 HB.out az.out⟩
                   ·
                    replace c33:=Bool.eq_false_iff.mpr c33;subst c33;have H1:=ifn_ H
                    clear H;have H:=H1;clear H1;have H':=am_ H;clear H;have bi:0≤(ae:Int):=sq_dec;have bj:ae<((rd_L7 ac aa).length:Int):=sq_dec;obtain⟨bc,bN,aC,aD⟩:=at_T53 aY.out ae bi bj;cases bN;replace aC:=cb_ HB aC;replace aD:=cb_ HB aD;replace bi:=eq_true bi;replace bj:=eq_true bj
                    try go_wp2_with (first|((with_reducible refine gate_dst (N:=12) rfl ?_);(try(refine gate_guard (by rfl) ?_;dsimp only));refine box_y 12 #[.int .i64 0,.int .i64 0] 53 (h:=?_);intro ah hg eh hbox hb;replace ai:=am_ (Kd.R_below (Kd.R_elderB (sq_row ai.out) ah (Nat.le_of_eq hg.symm)) hb);have ag:=am_ hbox;have cd:=gz1_ hg HB ak;have az:=gz1_ hg HB ak;replace HB:=hb1_ HB hb ak;have ba:=nb_ hg af;replace af:=bb_ af hb;have bJ:=ns_ ba;clear hb hbox hg;have fK:=bJ.out;have fN:=ba.out;obtain⟨eo,ep,eA,eB⟩:=cz2_ ag))
                    have n0_:Aside0 (Kd.R k53 53 ((eh.setCell ⟨ah,0,none⟩ (.int .i64 ((rd_T53 (rd_L7 ac aa) ae).f0))).setCell ⟨ah,1,none⟩ (.int .i64 ((rd_T53 (rd_L7 ac aa) ae).f1))) w.heap.size (fun k_=>k_≠ah) u8 a9):=⟨by(with_reducible repeat(first|apply Kd.R_alloc|apply Kd.R_drewN|apply Kd.R_drew));exact Kd.R_mono (Kd.R_far (p:=⟨ah,1,none⟩) (Kd.R_far (p:=⟨ah,0,none⟩) (Kd.R_mono ai.out (fun k_ hk=>(⟨hk,hk.2⟩:_∧k_≠ah))) (fun _ hk=>hk.2) (.int .i64 ((rd_T53 (rd_L7 ac aa) ae).f0))) (fun _ hk=>hk.2) (.int .i64 ((rd_T53 (rd_L7 ac aa) ae).f1))) (fun _ hk=>hk.1.2)⟩;have n1_:Aside0 (((eh.setCell ⟨ah,0,none⟩ (.int .i64 ((rd_T53 (rd_L7 ac aa) ae).f0))).setCell ⟨ah,1,none⟩ (.int .i64 ((rd_T53 (rd_L7 ac aa) ae).f1))).heap[bf]?=some (.cells #[.slice (some cN) ac.length bF,.slice bA aG.length bB,.slice bC aT.length bG] 32 (0,0))):=bf_ af ba;have n2_:Aside0 (((eh.setCell ⟨ah,0,none⟩ (.int .i64 ((rd_T53 (rd_L7 ac aa) ae).f0))).setCell ⟨ah,1,none⟩ (.int .i64 ((rd_T53 (rd_L7 ac aa) ae).f1))).heap[ah]?=some (.cells #[.int .i64 ((rd_T53 (rd_L7 ac aa) ae).f0),.int .i64 ((rd_T53 (rd_L7 ac aa) ae).f1)] 53 (0,0))):=⟨by(with_reducible repeat(first|refine blk_drewN ?_ _|refine blk_drew ?_|refine blk_alloc ?_ _));refine blk_put (cs:=#[.int .i64 ((rd_T53 (rd_L7 ac aa) ae).f0),.int .i64 0]) ?_ 1 _ rfl;(with_reducible repeat(first|refine blk_drewN ?_ _|refine blk_drew ?_|refine blk_alloc ?_ _));refine blk_put (cs:=#[.int .i64 0,.int .i64 0]) ?_ 0 _ rfl;(with_reducible repeat(first|refine blk_drewN ?_ _|refine blk_drew ?_|refine blk_alloc ?_ _));exact ag.out⟩;have n3_:Aside0 (Below w.heap.size w ((eh.setCell ⟨ah,0,none⟩ (.int .i64 ((rd_T53 (rd_L7 ac aa) ae).f0))).setCell ⟨ah,1,none⟩ (.int .i64 ((rd_T53 (rd_L7 ac aa) ae).f1)))):=⟨sq_below2 HB.out ak.out az.out⟩
                    (try clear ai)
                    (try clear af)
                    (try clear ag)
                    (try clear HB)
                    generalize ((eh.setCell ⟨ah,0,none⟩ (.int .i64 ((rd_T53 (rd_L7 ac aa) ae).f0))).setCell ⟨ah,1,none⟩ (.int .i64 ((rd_T53 (rd_L7 ac aa) ae).f1)))=gr at n0_ n1_ n2_ n3_ ⊢;have ai:=n0_;have af:=n1_;have ag:=n2_;have HB:=n3_;clear n0_ n1_ n2_ n3_;replace ai:=rd_ ai;replace af:=bd_ af;replace ag:=bd_ ag;replace HB:=hd_ HB;have bO:0≤((aA):Int):=sq_dec;have bQ:(aA)<((rd_L7 ac aa).length:Int):=sq_dec;obtain⟨cf,cP,aM,aN⟩:=at_T53 aY.out (aA) bO bQ;have aV:=aN;have aU:=aM;obtain rfl:bc=cf:=(by injection cP);replace aM:=cb_ HB aM;replace aN:=cb_ HB aN;replace bO:=eq_true bO;replace bQ:=eq_true bQ;refine start_ (n:=23) (S:=fun w'=>w'.cell? ⟨ah,0,none⟩=some (.int .i64 ((rd_T53 (rd_L7 ac aa) ae).f0))∧w'.cell? ⟨ah,1,none⟩=some (.int .i64 ((rd_T53 (rd_L7 ac aa) ae).f1))∧w'.cell? (bc.add (((aA)).toNat*2))=some (.int .i64 ((rd_T53 (rd_L7 ac aa) (aA)).f0))∧w'.cell? ⟨(bc.add (((aA)).toNat*2)).block,(bc.add (((aA)).toNat*2)).off+1,none⟩=some (.int .i64 ((rd_T53 (rd_L7 ac aa) (aA)).f1))) (ds:=[]) #[false,false,false,false,false,false,false,false,false,false,false,false,false,false,false,false,false,false,false,false,false,false,false] (by kernel_rfl) rfl rfl ⟨cl_ ag 0,cl_ ag 1,(cb_ HB aU),(cb_ HB aV)⟩ (fun hHeld=>?_);refine with_tabW impl_SegOk.tab11 impl_SegOk.bits11 (fun HT_ HW_=>?_);generalize gr.drew=gJ at ai af ag HB aM aN hHeld ⊢;refine py_ HT_ 0 58 ?_
                    refine ty_ HT_ HW_ 1 59 rfl hHeld (by rintro w' ⟨s0,s1,s2,s3⟩;go_simp;with_reducible rfl) ?_
                    refine oy_ HT_ 2 (some 60) (fun K hK=>?_);refine gs_ Tryd.func51 #[.int .i64 a0,.agg #[.int .i64 ((rd_T53 (rd_L7 ac aa) ae).f0),.int .i64 ((rd_T53 (rd_L7 ac aa) ae).f1)]] (h:=?_);with_reducible refine(impl_SymOk.calls a0 ((rd_T53 (rd_L7 ac aa) ae).f0) ((rd_T53 (rd_L7 ac aa) ae).f1) true _ A24.out).mono ?_
                    rintro e gK ⟨rfl,hb⟩;refine⟨_,rfl,?_⟩;replace ai:=rb_ ai hb;replace af:=bb_ af hb;replace ag:=bb_ ag hb;replace HB:=hb2_ HB hb ak az
                    (try clear hb)
                    (try clear hb2)
                    (try clear hk)
                    (try clear hi)
                    refine hK.out _ _ ⟨cl_ ag 0,cl_ ag 1,(cb_ HB aU),(cb_ HB aV)⟩ (fun hHeld=>?_);clear hK K;refine norm_y 60 (h:=?_)
                    refine py_ HT_ 3 61 ?_
                    refine py_ HT_ 4 62 ?_
                    refine py_ HT_ 5 63 ?_
                    refine py_ HT_ 6 64 ?_
                    refine py_ HT_ 7 65 ?_
                    refine py_ HT_ 8 66 ?_
                    refine py_ HT_ 9 67 ?_
                    refine py_ HT_ 10 68 ?_
                    refine py_ HT_ 11 69 ?_
                    refine ty_ HT_ HW_ 12 70 rfl hHeld (by rintro w' ⟨s0,s1,s2,s3⟩;go_simp;with_reducible rfl) ?_
                    refine ty_ HT_ HW_ 13 71 rfl hHeld (by rintro w' ⟨s0,s1,s2,s3⟩;go_simp;with_reducible rfl) ?_
                    refine oy_ HT_ 14 (some 72) (fun K hK=>?_);refine goes_ Tryd.func52 (by kernel_rfl) rfl #[.agg #[.int .i64 ((rd_T53 (rd_L7 ac aa) (aA)).f0),.int .i64 ((rd_T53 (rd_L7 ac aa) (aA)).f1)],.agg #[.int .i64 ((rd_T53 (rd_L7 ac aa) ae).f0),.int .i64 ((rd_T53 (rd_L7 ac aa) ae).f1)]] (by rfl) rfl rfl (by(try simp only [List.map_toArray,List.map_cons,List.map_nil]);first|done|(simp only [bH];rfl)|rfl|(simp only [List.length_drop,List.length_take];rfl)) ?_;with_reducible refine(impl_SymLess.calls ((rd_T53 (rd_L7 ac aa) (aA)).f0) ((rd_T53 (rd_L7 ac aa) (aA)).f1) ((rd_T53 (rd_L7 ac aa) ae).f0) ((rd_T53 (rd_L7 ac aa) ae).f1) true _ A30.out).mono ?_
                    rintro e gL ⟨rfl,hb⟩;refine⟨_,rfl,?_⟩;replace ai:=rb_ ai hb;replace af:=bb_ af hb;replace ag:=bb_ ag hb;replace HB:=hb2_ HB hb ak az
                    (try clear hb)
                    (try clear hb2)
                    (try clear hk)
                    (try clear hi)
                    obtain⟨eQ,eW,dH⟩:=Kd.R_slice ai.out
                    (first|subst dH|(injection dH with f1_ f2_ f3_;have f4_:=f1_.symm;have f5_:=f3_.symm;clear f1_ f2_ f3_;subst f4_;subst f5_))
                    refine hK.out _ _ ⟨cl_ ag 0,cl_ ag 1,(cb_ HB aU),(cb_ HB aV)⟩ (fun hHeld=>?_);clear hK K;refine norm_y 72 (h:=?_)
                    refine py_ HT_ 15 73 ?_
                    refine py_ HT_ 16 74 ?_
                    refine py_ HT_ 17 75 ?_
                    refine py_ HT_ 18 76 ?_
                    refine py_ HT_ 19 77 ?_
                    refine ty_ HT_ HW_ 20 78 rfl hHeld (by rintro w' ⟨s0,s1,s2,s3⟩;go_simp;with_reducible rfl) ?_
                    refine oy_ HT_ 21 (some 79) (fun K hK=>?_);refine gs_ Tryd.func53 #[.slice eQ a9.length eW,.agg #[.int .i64 ((rd_T53 (rd_L7 ac aa) ae).f0),.int .i64 ((rd_T53 (rd_L7 ac aa) ae).f1)]] (h:=?_);with_reducible refine(impl_Sym_53.calls k3 _ _ a9 ((rd_T53 (rd_L7 ac aa) ae).f0) ((rd_T53 (rd_L7 ac aa) ae).f1) false _ ?aZ ?a8 A32.out).mono ?_
                    (case aZ=>exact sq_c ((Kd.R_reads' ai.out).2.2))
                    (case a8=>exact(Kd.R_reads' ai.out).2.1)
                    rintro e gM ⟨rfl,hb⟩;refine⟨_,rfl,?_⟩;replace ai:=rb_ ai hb;replace af:=bb_ af hb;replace ag:=bb_ ag hb;replace HB:=hb2_ HB hb ak az
                    (try clear hb)
                    (try clear hb2)
                    (try clear hk)
                    (try clear hi)
                    refine hK.out _ _ ⟨cl_ ag 0,cl_ ag 1,(cb_ HB aU),(cb_ HB aV)⟩ (fun hHeld=>?_);clear hK K;refine norm_y 79 (h:=?_)
                    refine py_ HT_ 22 80 ?_
                    refine done_ (done_of HT_.out (by kernel_rfl)) ?_
                    try go_wp2
                    go_roundg k3
                    case measure=>have:=HJ3.out;have:=HK2.out;have:=HK3.out;omega
                    case rel=>exact⟨(wrap64 (ae+1)),sr_,H',⟨by have:=HJ3.out;have:=HK2.out;have:=HK3.out;omega⟩,⟨by(with_reducible repeat(first|apply Kd.R_alloc|apply Kd.R_drewN|apply Kd.R_drew));exact Kd.R_mono ai.out (fun _ hk=>trivial)⟩,bk_ af,⟨sq_below2 HB.out ak.out az.out⟩⟩
                  ·
                   replace c31:=Bool.eq_false_iff.mpr c31;subst c31;have H1:=ifn_ H
                   clear H;have H:=H1;clear H1;obtain rfl:=Option.some.inj H;have bi:0≤(ae:Int):=sq_dec;have bj:ae<((rd_L7 ac aa).length:Int):=sq_dec;obtain⟨bc,bN,aC,aD⟩:=at_T53 aY.out ae bi bj;cases bN;replace aC:=cb_ HB aC;replace aD:=cb_ HB aD;replace bi:=eq_true bi;replace bj:=eq_true bj
                   try go_wp2_with (first|((with_reducible refine gate_dst (N:=12) rfl ?_);(try(refine gate_guard (by rfl) ?_;dsimp only));refine box_y 12 #[.int .i64 0,.int .i64 0] 53 (h:=?_);intro ah hg eL hbox hb;replace ai:=am_ (Kd.R_below (Kd.R_elderB (sq_row ai.out) ah (Nat.le_of_eq hg.symm)) hb);have ag:=am_ hbox;have cd:=gz_ hg HB;have az:=gz_ hg HB;replace HB:=hb_ HB hb;clear hb hbox hg;obtain⟨eq,er,eC,eD⟩:=cz2_ ag))
                   have n0_:Aside0 (Kd.R k53 53 ((eL.setCell ⟨ah,0,none⟩ (.int .i64 ((rd_T53 (rd_L7 ac aa) ae).f0))).setCell ⟨ah,1,none⟩ (.int .i64 ((rd_T53 (rd_L7 ac aa) ae).f1))) w.heap.size (fun k_=>k_≠ah) u8 a9):=⟨by(with_reducible repeat(first|apply Kd.R_alloc|apply Kd.R_drewN|apply Kd.R_drew));exact Kd.R_mono (Kd.R_far (p:=⟨ah,1,none⟩) (Kd.R_far (p:=⟨ah,0,none⟩) (Kd.R_mono ai.out (fun k_ hk=>(⟨hk,hk.2⟩:_∧k_≠ah))) (fun _ hk=>hk.2) (.int .i64 ((rd_T53 (rd_L7 ac aa) ae).f0))) (fun _ hk=>hk.2) (.int .i64 ((rd_T53 (rd_L7 ac aa) ae).f1))) (fun _ hk=>hk.1.2)⟩;have n1_:Aside0 (((eL.setCell ⟨ah,0,none⟩ (.int .i64 ((rd_T53 (rd_L7 ac aa) ae).f0))).setCell ⟨ah,1,none⟩ (.int .i64 ((rd_T53 (rd_L7 ac aa) ae).f1))).heap[ah]?=some (.cells #[.int .i64 ((rd_T53 (rd_L7 ac aa) ae).f0),.int .i64 ((rd_T53 (rd_L7 ac aa) ae).f1)] 53 (0,0))):=⟨by(with_reducible repeat(first|refine blk_drewN ?_ _|refine blk_drew ?_|refine blk_alloc ?_ _));refine blk_put (cs:=#[.int .i64 ((rd_T53 (rd_L7 ac aa) ae).f0),.int .i64 0]) ?_ 1 _ rfl;(with_reducible repeat(first|refine blk_drewN ?_ _|refine blk_drew ?_|refine blk_alloc ?_ _));refine blk_put (cs:=#[.int .i64 0,.int .i64 0]) ?_ 0 _ rfl;(with_reducible repeat(first|refine blk_drewN ?_ _|refine blk_drew ?_|refine blk_alloc ?_ _));exact ag.out⟩;have n2_:Aside0 (Below w.heap.size w ((eL.setCell ⟨ah,0,none⟩ (.int .i64 ((rd_T53 (rd_L7 ac aa) ae).f0))).setCell ⟨ah,1,none⟩ (.int .i64 ((rd_T53 (rd_L7 ac aa) ae).f1)))):=⟨sq_below1 HB.out az.out⟩
                   (try clear ai)
                   (try clear ag)
                   (try clear HB)
                   generalize ((eL.setCell ⟨ah,0,none⟩ (.int .i64 ((rd_T53 (rd_L7 ac aa) ae).f0))).setCell ⟨ah,1,none⟩ (.int .i64 ((rd_T53 (rd_L7 ac aa) ae).f1)))=gu at n0_ n1_ n2_ ⊢;have ai:=n0_;have ag:=n1_;have HB:=n2_;clear n0_ n1_ n2_;replace ai:=rd_ ai;replace ag:=bd_ ag;replace HB:=hd_ HB;have bO:0≤((aA):Int):=sq_dec;have bQ:(aA)<((rd_L7 ac aa).length:Int):=sq_dec;obtain⟨cf,cP,aM,aN⟩:=at_T53 aY.out (aA) bO bQ;have aV:=aN;have aU:=aM;obtain rfl:bc=cf:=(by injection cP);replace aM:=cb_ HB aM;replace aN:=cb_ HB aN;replace bO:=eq_true bO;replace bQ:=eq_true bQ;refine start_ (n:=23) (S:=fun w'=>w'.cell? ⟨ah,0,none⟩=some (.int .i64 ((rd_T53 (rd_L7 ac aa) ae).f0))∧w'.cell? ⟨ah,1,none⟩=some (.int .i64 ((rd_T53 (rd_L7 ac aa) ae).f1))∧w'.cell? (bc.add (((aA)).toNat*2))=some (.int .i64 ((rd_T53 (rd_L7 ac aa) (aA)).f0))∧w'.cell? ⟨(bc.add (((aA)).toNat*2)).block,(bc.add (((aA)).toNat*2)).off+1,none⟩=some (.int .i64 ((rd_T53 (rd_L7 ac aa) (aA)).f1))) (ds:=[]) #[false,false,false,false,false,false,false,false,false,false,false,false,false,false,false,false,false,false,false,false,false,false,false] (by kernel_rfl) rfl rfl ⟨cl_ ag 0,cl_ ag 1,(cb_ HB aU),(cb_ HB aV)⟩ (fun hHeld=>?_);refine with_tabW impl_SegOk.tab11 impl_SegOk.bits11 (fun HT_ HW_=>?_);generalize gu.drew=gN at ai ag HB aM aN hHeld ⊢;refine py_ HT_ 0 58 ?_
                   refine ty_ HT_ HW_ 1 59 rfl hHeld (by rintro w' ⟨s0,s1,s2,s3⟩;go_simp;with_reducible rfl) ?_
                   refine oy_ HT_ 2 (some 60) (fun K hK=>?_);refine gs_ Tryd.func51 #[.int .i64 a0,.agg #[.int .i64 ((rd_T53 (rd_L7 ac aa) ae).f0),.int .i64 ((rd_T53 (rd_L7 ac aa) ae).f1)]] (h:=?_);with_reducible refine(impl_SymOk.calls a0 ((rd_T53 (rd_L7 ac aa) ae).f0) ((rd_T53 (rd_L7 ac aa) ae).f1) true _ A24.out).mono ?_
                   rintro e gO ⟨rfl,hb⟩;refine⟨_,rfl,?_⟩;replace ai:=rb_ ai hb;replace ag:=bb_ ag hb;replace HB:=hb1_ HB hb az
                   (try clear hb)
                   (try clear hb2)
                   (try clear hk)
                   (try clear hi)
                   refine hK.out _ _ ⟨cl_ ag 0,cl_ ag 1,(cb_ HB aU),(cb_ HB aV)⟩ (fun hHeld=>?_);clear hK K;refine norm_y 60 (h:=?_)
                   refine py_ HT_ 3 61 ?_
                   refine py_ HT_ 4 62 ?_
                   refine py_ HT_ 5 63 ?_
                   refine py_ HT_ 6 64 ?_
                   refine py_ HT_ 7 65 ?_
                   refine py_ HT_ 8 66 ?_
                   refine py_ HT_ 9 67 ?_
                   refine py_ HT_ 10 68 ?_
                   refine py_ HT_ 11 69 ?_
                   refine ty_ HT_ HW_ 12 70 rfl hHeld (by rintro w' ⟨s0,s1,s2,s3⟩;go_simp;with_reducible rfl) ?_
                   refine ty_ HT_ HW_ 13 71 rfl hHeld (by rintro w' ⟨s0,s1,s2,s3⟩;go_simp;with_reducible rfl) ?_
                   refine oy_ HT_ 14 (some 72) (fun K hK=>?_);refine goes_ Tryd.func52 (by kernel_rfl) rfl #[.agg #[.int .i64 ((rd_T53 (rd_L7 ac aa) (aA)).f0),.int .i64 ((rd_T53 (rd_L7 ac aa) (aA)).f1)],.agg #[.int .i64 ((rd_T53 (rd_L7 ac aa) ae).f0),.int .i64 ((rd_T53 (rd_L7 ac aa) ae).f1)]] (by rfl) rfl rfl (by(try simp only [List.map_toArray,List.map_cons,List.map_nil]);first|done|(simp only [bH];rfl)|rfl|(simp only [List.length_drop,List.length_take];rfl)) ?_;with_reducible refine(impl_SymLess.calls ((rd_T53 (rd_L7 ac aa) (aA)).f0) ((rd_T53 (rd_L7 ac aa) (aA)).f1) ((rd_T53 (rd_L7 ac aa) ae).f0) ((rd_T53 (rd_L7 ac aa) ae).f1) false _ A30.out).mono ?_
                   rintro e gP ⟨rfl,hb⟩;refine⟨_,rfl,?_⟩;replace ai:=rb_ ai hb;replace ag:=bb_ ag hb;replace HB:=hb1_ HB hb az
                   (try clear hb)
                   (try clear hb2)
                   (try clear hk)
                   (try clear hi)
                   refine hK.out _ _ ⟨cl_ ag 0,cl_ ag 1,(cb_ HB aU),(cb_ HB aV)⟩ (fun hHeld=>?_);clear hK K;refine norm_y 72 (h:=?_)
                   refine py_ HT_ 15 73 ?_
                   refine py_ HT_ 16 74 ?_
                   refine py_ HT_ 17 75 ?_
                   refine py_ HT_ 18 76 ?_
                   refine pn_ HT_ 19 77 ?_
                   refine pn_ HT_ 20 78 ?_
                   refine pn_ HT_ 21 79 ?_
                   refine py_ HT_ 22 80 ?_
                   refine done_ (done_of HT_.out (by kernel_rfl)) ?_
                   try go_wp2
                   go_ret
                   exact⟨by first|rfl|(simp [errW_none,errW_some]<;>rfl)|(simp only [← bH];first|rfl|(simp [errW_none,errW_some]<;>rfl))|(simp [*,errW_none,errW_some]<;>rfl),sq_below1 HB.out az.out⟩
                 ·
                  rw [if_neg c29]at H;exact absurd H (by simp)
                ·
                 rw [if_neg c28]at H;exact absurd H (by simp)
               ·
                rw [if_neg c26]at H;have dB:=decide_eq_false (p:=0<ae) c26;clear c26;obtain⟨dp,A57,H⟩:=be_ H;(try dsimp only at H)
                by_cases c58:dp=true
                ·
                 subst c58;have H1:=ifp_ H
                 clear H;have H:=H1;clear H1;obtain rfl:=Option.some.inj H;have bi:0≤(ae:Int):=sq_dec;have bj:ae<((rd_L7 ac aa).length:Int):=sq_dec;obtain⟨bc,bN,aC,aD⟩:=at_T53 aY.out ae bi bj;cases bN;replace aC:=cb_ HB aC;replace aD:=cb_ HB aD;replace bi:=eq_true bi;replace bj:=eq_true bj
                 try go_wp2_with (first|((with_reducible refine gate_dst (N:=12) rfl ?_);(try(refine gate_guard (by rfl) ?_;dsimp only));refine box_y 12 #[.int .i64 0,.int .i64 0] 53 (h:=?_);intro ah hg eM hbox hb;replace ai:=am_ (Kd.R_below (Kd.R_elderB (sq_row ai.out) ah (Nat.le_of_eq hg.symm)) hb);have ag:=am_ hbox;have cd:=gz_ hg HB;have az:=gz_ hg HB;replace HB:=hb_ HB hb;clear hb hbox hg;obtain⟨es,et,eE,eF⟩:=cz2_ ag))
                 have n0_:Aside0 (Kd.R k53 53 ((eM.setCell ⟨ah,0,none⟩ (.int .i64 ((rd_T53 (rd_L7 ac aa) ae).f0))).setCell ⟨ah,1,none⟩ (.int .i64 ((rd_T53 (rd_L7 ac aa) ae).f1))) w.heap.size (fun k_=>k_≠ah) u8 a9):=⟨by(with_reducible repeat(first|apply Kd.R_alloc|apply Kd.R_drewN|apply Kd.R_drew));exact Kd.R_mono (Kd.R_far (p:=⟨ah,1,none⟩) (Kd.R_far (p:=⟨ah,0,none⟩) (Kd.R_mono ai.out (fun k_ hk=>(⟨hk,hk.2⟩:_∧k_≠ah))) (fun _ hk=>hk.2) (.int .i64 ((rd_T53 (rd_L7 ac aa) ae).f0))) (fun _ hk=>hk.2) (.int .i64 ((rd_T53 (rd_L7 ac aa) ae).f1))) (fun _ hk=>hk.1.2)⟩;have n1_:Aside0 (((eM.setCell ⟨ah,0,none⟩ (.int .i64 ((rd_T53 (rd_L7 ac aa) ae).f0))).setCell ⟨ah,1,none⟩ (.int .i64 ((rd_T53 (rd_L7 ac aa) ae).f1))).heap[ah]?=some (.cells #[.int .i64 ((rd_T53 (rd_L7 ac aa) ae).f0),.int .i64 ((rd_T53 (rd_L7 ac aa) ae).f1)] 53 (0,0))):=⟨by(with_reducible repeat(first|refine blk_drewN ?_ _|refine blk_drew ?_|refine blk_alloc ?_ _));refine blk_put (cs:=#[.int .i64 ((rd_T53 (rd_L7 ac aa) ae).f0),.int .i64 0]) ?_ 1 _ rfl;(with_reducible repeat(first|refine blk_drewN ?_ _|refine blk_drew ?_|refine blk_alloc ?_ _));refine blk_put (cs:=#[.int .i64 0,.int .i64 0]) ?_ 0 _ rfl;(with_reducible repeat(first|refine blk_drewN ?_ _|refine blk_drew ?_|refine blk_alloc ?_ _));exact ag.out⟩;have n2_:Aside0 (Below w.heap.size w ((eM.setCell ⟨ah,0,none⟩ (.int .i64 ((rd_T53 (rd_L7 ac aa) ae).f0))).setCell ⟨ah,1,none⟩ (.int .i64 ((rd_T53 (rd_L7 ac aa) ae).f1)))):=⟨sq_below1 HB.out az.out⟩
                 (try clear ai)
                 (try clear ag)
                 (try clear HB)
                 generalize ((eM.setCell ⟨ah,0,none⟩ (.int .i64 ((rd_T53 (rd_L7 ac aa) ae).f0))).setCell ⟨ah,1,none⟩ (.int .i64 ((rd_T53 (rd_L7 ac aa) ae).f1)))=gv at n0_ n1_ n2_ ⊢;have ai:=n0_;have ag:=n1_;have HB:=n2_;clear n0_ n1_ n2_;replace ai:=rd_ ai;replace ag:=bd_ ag;replace HB:=hd_ HB;refine start_ (n:=23) (S:=fun w'=>w'.cell? ⟨ah,0,none⟩=some (.int .i64 ((rd_T53 (rd_L7 ac aa) ae).f0))∧w'.cell? ⟨ah,1,none⟩=some (.int .i64 ((rd_T53 (rd_L7 ac aa) ae).f1))) (ds:=[]) #[false,false,false,false,false,false,false,false,false,false,false,false,false,false,false,false,false,false,false,false,false,false,false] (by kernel_rfl) rfl rfl ⟨cl_ ag 0,cl_ ag 1⟩ (fun hHeld=>?_);refine with_tabW impl_SegOk.tab11 impl_SegOk.bits11 (fun HT_ HW_=>?_);generalize gv.drew=gQ at ai ag HB hHeld ⊢;refine py_ HT_ 0 58 ?_
                 refine ty_ HT_ HW_ 1 59 rfl hHeld (by rintro w' ⟨s0,s1⟩;go_simp;with_reducible rfl) ?_
                 refine oy_ HT_ 2 (some 60) (fun K hK=>?_);refine gs_ Tryd.func51 #[.int .i64 a0,.agg #[.int .i64 ((rd_T53 (rd_L7 ac aa) ae).f0),.int .i64 ((rd_T53 (rd_L7 ac aa) ae).f1)]] (h:=?_);with_reducible refine(impl_SymOk.calls a0 ((rd_T53 (rd_L7 ac aa) ae).f0) ((rd_T53 (rd_L7 ac aa) ae).f1) true _ A24.out).mono ?_
                 rintro e gR ⟨rfl,hb⟩;refine⟨_,rfl,?_⟩;replace ai:=rb_ ai hb;replace ag:=bb_ ag hb;replace HB:=hb1_ HB hb az
                 (try clear hb)
                 (try clear hb2)
                 (try clear hk)
                 (try clear hi)
                 obtain⟨eR,eX,dI⟩:=Kd.R_slice ai.out
                 (first|subst dI|(injection dI with f1_ f2_ f3_;have f4_:=f1_.symm;have f5_:=f3_.symm;clear f1_ f2_ f3_;subst f4_;subst f5_))
                 refine hK.out _ _ ⟨cl_ ag 0,cl_ ag 1⟩ (fun hHeld=>?_);clear hK K;refine norm_y 60 (h:=?_)
                 refine py_ HT_ 3 61 ?_
                 refine py_ HT_ 4 62 ?_
                 refine py_ HT_ 5 63 ?_
                 refine py_ HT_ 6 64 ?_
                 refine py_ HT_ 7 65 ?_
                 refine pn_ HT_ 8 66 ?_
                 refine pn_ HT_ 9 67 ?_
                 refine pn_ HT_ 10 68 ?_
                 refine pn_ HT_ 11 69 ?_
                 refine pn_ HT_ 12 70 ?_
                 refine pn_ HT_ 13 71 ?_
                 refine pn_ HT_ 14 72 ?_
                 refine pn_ HT_ 15 73 ?_
                 refine py_ HT_ 16 74 ?_
                 refine py_ HT_ 17 75 ?_
                 refine py_ HT_ 18 76 ?_
                 refine py_ HT_ 19 77 ?_
                 refine ty_ HT_ HW_ 20 78 rfl hHeld (by rintro w' ⟨s0,s1⟩;go_simp;with_reducible rfl) ?_
                 refine oy_ HT_ 21 (some 79) (fun K hK=>?_);refine gs_ Tryd.func53 #[.slice eR a9.length eX,.agg #[.int .i64 ((rd_T53 (rd_L7 ac aa) ae).f0),.int .i64 ((rd_T53 (rd_L7 ac aa) ae).f1)]] (h:=?_);with_reducible refine(impl_Sym_53.calls k3 _ _ a9 ((rd_T53 (rd_L7 ac aa) ae).f0) ((rd_T53 (rd_L7 ac aa) ae).f1) true _ ?aZ ?a8 A57.out).mono ?_
                 (case aZ=>exact sq_c ((Kd.R_reads' ai.out).2.2))
                 (case a8=>exact(Kd.R_reads' ai.out).2.1)
                 rintro e gS ⟨rfl,hb⟩;refine⟨_,rfl,?_⟩;replace ai:=rb_ ai hb;replace ag:=bb_ ag hb;replace HB:=hb1_ HB hb az
                 (try clear hb)
                 (try clear hb2)
                 (try clear hk)
                 (try clear hi)
                 refine hK.out _ _ ⟨cl_ ag 0,cl_ ag 1⟩ (fun hHeld=>?_);clear hK K;refine norm_y 79 (h:=?_)
                 refine py_ HT_ 22 80 ?_
                 refine done_ (done_of HT_.out (by kernel_rfl)) ?_
                 try go_wp2
                 go_ret
                 exact⟨lf_,sq_below1 HB.out az.out⟩
                ·
                 replace c58:=Bool.eq_false_iff.mpr c58;subst c58;have H1:=ifn_ H
                 clear H;have H:=H1;clear H1;have H':=am_ H;clear H;have bi:0≤(ae:Int):=sq_dec;have bj:ae<((rd_L7 ac aa).length:Int):=sq_dec;obtain⟨bc,bN,aC,aD⟩:=at_T53 aY.out ae bi bj;cases bN;replace aC:=cb_ HB aC;replace aD:=cb_ HB aD;replace bi:=eq_true bi;replace bj:=eq_true bj
                 try go_wp2_with (first|((with_reducible refine gate_dst (N:=12) rfl ?_);(try(refine gate_guard (by rfl) ?_;dsimp only));refine box_y 12 #[.int .i64 0,.int .i64 0] 53 (h:=?_);intro ah hg ej hbox hb;replace ai:=am_ (Kd.R_below (Kd.R_elderB (sq_row ai.out) ah (Nat.le_of_eq hg.symm)) hb);have ag:=am_ hbox;have cd:=gz1_ hg HB ak;have az:=gz1_ hg HB ak;replace HB:=hb1_ HB hb ak;have ba:=nb_ hg af;replace af:=bb_ af hb;have bJ:=ns_ ba;clear hb hbox hg;have fL:=bJ.out;have fO:=ba.out;obtain⟨eu,ev,eG,eH⟩:=cz2_ ag))
                 have n0_:Aside0 (Kd.R k53 53 ((ej.setCell ⟨ah,0,none⟩ (.int .i64 ((rd_T53 (rd_L7 ac aa) ae).f0))).setCell ⟨ah,1,none⟩ (.int .i64 ((rd_T53 (rd_L7 ac aa) ae).f1))) w.heap.size (fun k_=>k_≠ah) u8 a9):=⟨by(with_reducible repeat(first|apply Kd.R_alloc|apply Kd.R_drewN|apply Kd.R_drew));exact Kd.R_mono (Kd.R_far (p:=⟨ah,1,none⟩) (Kd.R_far (p:=⟨ah,0,none⟩) (Kd.R_mono ai.out (fun k_ hk=>(⟨hk,hk.2⟩:_∧k_≠ah))) (fun _ hk=>hk.2) (.int .i64 ((rd_T53 (rd_L7 ac aa) ae).f0))) (fun _ hk=>hk.2) (.int .i64 ((rd_T53 (rd_L7 ac aa) ae).f1))) (fun _ hk=>hk.1.2)⟩;have n1_:Aside0 (((ej.setCell ⟨ah,0,none⟩ (.int .i64 ((rd_T53 (rd_L7 ac aa) ae).f0))).setCell ⟨ah,1,none⟩ (.int .i64 ((rd_T53 (rd_L7 ac aa) ae).f1))).heap[bf]?=some (.cells #[.slice (some cN) ac.length bF,.slice bA aG.length bB,.slice bC aT.length bG] 32 (0,0))):=bf_ af ba;have n2_:Aside0 (((ej.setCell ⟨ah,0,none⟩ (.int .i64 ((rd_T53 (rd_L7 ac aa) ae).f0))).setCell ⟨ah,1,none⟩ (.int .i64 ((rd_T53 (rd_L7 ac aa) ae).f1))).heap[ah]?=some (.cells #[.int .i64 ((rd_T53 (rd_L7 ac aa) ae).f0),.int .i64 ((rd_T53 (rd_L7 ac aa) ae).f1)] 53 (0,0))):=⟨by(with_reducible repeat(first|refine blk_drewN ?_ _|refine blk_drew ?_|refine blk_alloc ?_ _));refine blk_put (cs:=#[.int .i64 ((rd_T53 (rd_L7 ac aa) ae).f0),.int .i64 0]) ?_ 1 _ rfl;(with_reducible repeat(first|refine blk_drewN ?_ _|refine blk_drew ?_|refine blk_alloc ?_ _));refine blk_put (cs:=#[.int .i64 0,.int .i64 0]) ?_ 0 _ rfl;(with_reducible repeat(first|refine blk_drewN ?_ _|refine blk_drew ?_|refine blk_alloc ?_ _));exact ag.out⟩;have n3_:Aside0 (Below w.heap.size w ((ej.setCell ⟨ah,0,none⟩ (.int .i64 ((rd_T53 (rd_L7 ac aa) ae).f0))).setCell ⟨ah,1,none⟩ (.int .i64 ((rd_T53 (rd_L7 ac aa) ae).f1)))):=⟨sq_below2 HB.out ak.out az.out⟩
                 (try clear ai)
                 (try clear af)
                 (try clear ag)
                 (try clear HB)
                 generalize ((ej.setCell ⟨ah,0,none⟩ (.int .i64 ((rd_T53 (rd_L7 ac aa) ae).f0))).setCell ⟨ah,1,none⟩ (.int .i64 ((rd_T53 (rd_L7 ac aa) ae).f1)))=gw at n0_ n1_ n2_ n3_ ⊢;have ai:=n0_;have af:=n1_;have ag:=n2_;have HB:=n3_;clear n0_ n1_ n2_ n3_;replace ai:=rd_ ai;replace af:=bd_ af;replace ag:=bd_ ag;replace HB:=hd_ HB;refine start_ (n:=23) (S:=fun w'=>w'.cell? ⟨ah,0,none⟩=some (.int .i64 ((rd_T53 (rd_L7 ac aa) ae).f0))∧w'.cell? ⟨ah,1,none⟩=some (.int .i64 ((rd_T53 (rd_L7 ac aa) ae).f1))) (ds:=[]) #[false,false,false,false,false,false,false,false,false,false,false,false,false,false,false,false,false,false,false,false,false,false,false] (by kernel_rfl) rfl rfl ⟨cl_ ag 0,cl_ ag 1⟩ (fun hHeld=>?_);refine with_tabW impl_SegOk.tab11 impl_SegOk.bits11 (fun HT_ HW_=>?_);generalize gw.drew=gT at ai af ag HB hHeld ⊢;refine py_ HT_ 0 58 ?_
                 refine ty_ HT_ HW_ 1 59 rfl hHeld (by rintro w' ⟨s0,s1⟩;go_simp;with_reducible rfl) ?_
                 refine oy_ HT_ 2 (some 60) (fun K hK=>?_);refine gs_ Tryd.func51 #[.int .i64 a0,.agg #[.int .i64 ((rd_T53 (rd_L7 ac aa) ae).f0),.int .i64 ((rd_T53 (rd_L7 ac aa) ae).f1)]] (h:=?_);with_reducible refine(impl_SymOk.calls a0 ((rd_T53 (rd_L7 ac aa) ae).f0) ((rd_T53 (rd_L7 ac aa) ae).f1) true _ A24.out).mono ?_
                 rintro e gU ⟨rfl,hb⟩;refine⟨_,rfl,?_⟩;replace ai:=rb_ ai hb;replace af:=bb_ af hb;replace ag:=bb_ ag hb;replace HB:=hb2_ HB hb ak az
                 (try clear hb)
                 (try clear hb2)
                 (try clear hk)
                 (try clear hi)
                 obtain⟨eS,eY,dJ⟩:=Kd.R_slice ai.out
                 (first|subst dJ|(injection dJ with f1_ f2_ f3_;have f4_:=f1_.symm;have f5_:=f3_.symm;clear f1_ f2_ f3_;subst f4_;subst f5_))
                 refine hK.out _ _ ⟨cl_ ag 0,cl_ ag 1⟩ (fun hHeld=>?_);clear hK K;refine norm_y 60 (h:=?_)
                 refine py_ HT_ 3 61 ?_
                 refine py_ HT_ 4 62 ?_
                 refine py_ HT_ 5 63 ?_
                 refine py_ HT_ 6 64 ?_
                 refine py_ HT_ 7 65 ?_
                 refine pn_ HT_ 8 66 ?_
                 refine pn_ HT_ 9 67 ?_
                 refine pn_ HT_ 10 68 ?_
                 refine pn_ HT_ 11 69 ?_
                 refine pn_ HT_ 12 70 ?_
                 refine pn_ HT_ 13 71 ?_
                 refine pn_ HT_ 14 72 ?_
                 refine pn_ HT_ 15 73 ?_
                 refine py_ HT_ 16 74 ?_
                 refine py_ HT_ 17 75 ?_
                 refine py_ HT_ 18 76 ?_
                 refine py_ HT_ 19 77 ?_
                 refine ty_ HT_ HW_ 20 78 rfl hHeld (by rintro w' ⟨s0,s1⟩;go_simp;with_reducible rfl) ?_
                 refine oy_ HT_ 21 (some 79) (fun K hK=>?_);refine gs_ Tryd.func53 #[.slice eS a9.length eY,.agg #[.int .i64 ((rd_T53 (rd_L7 ac aa) ae).f0),.int .i64 ((rd_T53 (rd_L7 ac aa) ae).f1)]] (h:=?_);with_reducible refine(impl_Sym_53.calls k3 _ _ a9 ((rd_T53 (rd_L7 ac aa) ae).f0) ((rd_T53 (rd_L7 ac aa) ae).f1) false _ ?aZ ?a8 A57.out).mono ?_
                 (case aZ=>exact sq_c ((Kd.R_reads' ai.out).2.2))
                 (case a8=>exact(Kd.R_reads' ai.out).2.1)
                 rintro e gV ⟨rfl,hb⟩;refine⟨_,rfl,?_⟩;replace ai:=rb_ ai hb;replace af:=bb_ af hb;replace ag:=bb_ ag hb;replace HB:=hb2_ HB hb ak az
                 (try clear hb)
                 (try clear hb2)
                 (try clear hk)
                 (try clear hi)
                 refine hK.out _ _ ⟨cl_ ag 0,cl_ ag 1⟩ (fun hHeld=>?_);clear hK K;refine norm_y 79 (h:=?_)
                 refine py_ HT_ 22 80 ?_
                 refine done_ (done_of HT_.out (by kernel_rfl)) ?_
                 try go_wp2
                 go_roundg k3
                 case measure=>have:=HJ3.out;have:=HK2.out;have:=HK3.out;omega
                 case rel=>exact⟨(wrap64 (ae+1)),sr_,H',⟨by have:=HJ3.out;have:=HK2.out;have:=HK3.out;omega⟩,⟨by(with_reducible repeat(first|apply Kd.R_alloc|apply Kd.R_drewN|apply Kd.R_drew));exact Kd.R_mono ai.out (fun _ hk=>trivial)⟩,bk_ af,⟨sq_below2 HB.out ak.out az.out⟩⟩
              ·
               replace c25:=Bool.eq_false_iff.mpr c25;subst c25;have H1:=ifn_ H
               clear H;have H:=H1;clear H1;obtain rfl:=Option.some.inj H;have bi:0≤(ae:Int):=sq_dec;have bj:ae<((rd_L7 ac aa).length:Int):=sq_dec;obtain⟨bc,bN,aC,aD⟩:=at_T53 aY.out ae bi bj;cases bN;replace aC:=cb_ HB aC;replace aD:=cb_ HB aD;replace bi:=eq_true bi;replace bj:=eq_true bj
               try go_wp2_with (first|((with_reducible refine gate_dst (N:=12) rfl ?_);(try(refine gate_guard (by rfl) ?_;dsimp only));refine box_y 12 #[.int .i64 0,.int .i64 0] 53 (h:=?_);intro ah hg eN hbox hb;replace ai:=am_ (Kd.R_below (Kd.R_elderB (sq_row ai.out) ah (Nat.le_of_eq hg.symm)) hb);have ag:=am_ hbox;have cd:=gz_ hg HB;have az:=gz_ hg HB;replace HB:=hb_ HB hb;clear hb hbox hg;obtain⟨ew,ex,eI,eJ⟩:=cz2_ ag))
               have n0_:Aside0 (Kd.R k53 53 ((eN.setCell ⟨ah,0,none⟩ (.int .i64 ((rd_T53 (rd_L7 ac aa) ae).f0))).setCell ⟨ah,1,none⟩ (.int .i64 ((rd_T53 (rd_L7 ac aa) ae).f1))) w.heap.size (fun k_=>k_≠ah) u8 a9):=⟨by(with_reducible repeat(first|apply Kd.R_alloc|apply Kd.R_drewN|apply Kd.R_drew));exact Kd.R_mono (Kd.R_far (p:=⟨ah,1,none⟩) (Kd.R_far (p:=⟨ah,0,none⟩) (Kd.R_mono ai.out (fun k_ hk=>(⟨hk,hk.2⟩:_∧k_≠ah))) (fun _ hk=>hk.2) (.int .i64 ((rd_T53 (rd_L7 ac aa) ae).f0))) (fun _ hk=>hk.2) (.int .i64 ((rd_T53 (rd_L7 ac aa) ae).f1))) (fun _ hk=>hk.1.2)⟩;have n1_:Aside0 (((eN.setCell ⟨ah,0,none⟩ (.int .i64 ((rd_T53 (rd_L7 ac aa) ae).f0))).setCell ⟨ah,1,none⟩ (.int .i64 ((rd_T53 (rd_L7 ac aa) ae).f1))).heap[ah]?=some (.cells #[.int .i64 ((rd_T53 (rd_L7 ac aa) ae).f0),.int .i64 ((rd_T53 (rd_L7 ac aa) ae).f1)] 53 (0,0))):=⟨by(with_reducible repeat(first|refine blk_drewN ?_ _|refine blk_drew ?_|refine blk_alloc ?_ _));refine blk_put (cs:=#[.int .i64 ((rd_T53 (rd_L7 ac aa) ae).f0),.int .i64 0]) ?_ 1 _ rfl;(with_reducible repeat(first|refine blk_drewN ?_ _|refine blk_drew ?_|refine blk_alloc ?_ _));refine blk_put (cs:=#[.int .i64 0,.int .i64 0]) ?_ 0 _ rfl;(with_reducible repeat(first|refine blk_drewN ?_ _|refine blk_drew ?_|refine blk_alloc ?_ _));exact ag.out⟩;have n2_:Aside0 (Below w.heap.size w ((eN.setCell ⟨ah,0,none⟩ (.int .i64 ((rd_T53 (rd_L7 ac aa) ae).f0))).setCell ⟨ah,1,none⟩ (.int .i64 ((rd_T53 (rd_L7 ac aa) ae).f1)))):=⟨sq_below1 HB.out az.out⟩
               (try clear ai)
               (try clear ag)
               (try clear HB)
               generalize ((eN.setCell ⟨ah,0,none⟩ (.int .i64 ((rd_T53 (rd_L7 ac aa) ae).f0))).setCell ⟨ah,1,none⟩ (.int .i64 ((rd_T53 (rd_L7 ac aa) ae).f1)))=gy at n0_ n1_ n2_ ⊢;have ai:=n0_;have ag:=n1_;have HB:=n2_;clear n0_ n1_ n2_;replace ai:=rd_ ai;replace ag:=bd_ ag;replace HB:=hd_ HB;refine start_ (n:=23) (S:=fun w'=>w'.cell? ⟨ah,0,none⟩=some (.int .i64 ((rd_T53 (rd_L7 ac aa) ae).f0))∧w'.cell? ⟨ah,1,none⟩=some (.int .i64 ((rd_T53 (rd_L7 ac aa) ae).f1))) (ds:=[]) #[false,false,false,false,false,false,false,false,false,false,false,false,false,false,false,false,false,false,false,false,false,false,false] (by kernel_rfl) rfl rfl ⟨cl_ ag 0,cl_ ag 1⟩ (fun hHeld=>?_);refine with_tabW impl_SegOk.tab11 impl_SegOk.bits11 (fun HT_ HW_=>?_);generalize gy.drew=gW at ai ag HB hHeld ⊢;refine py_ HT_ 0 58 ?_
               refine ty_ HT_ HW_ 1 59 rfl hHeld (by rintro w' ⟨s0,s1⟩;go_simp;with_reducible rfl) ?_
               refine oy_ HT_ 2 (some 60) (fun K hK=>?_);refine gs_ Tryd.func51 #[.int .i64 a0,.agg #[.int .i64 ((rd_T53 (rd_L7 ac aa) ae).f0),.int .i64 ((rd_T53 (rd_L7 ac aa) ae).f1)]] (h:=?_);with_reducible refine(impl_SymOk.calls a0 ((rd_T53 (rd_L7 ac aa) ae).f0) ((rd_T53 (rd_L7 ac aa) ae).f1) false _ A24.out).mono ?_
               rintro e gX ⟨rfl,hb⟩;refine⟨_,rfl,?_⟩;replace ai:=rb_ ai hb;replace ag:=bb_ ag hb;replace HB:=hb1_ HB hb az
               (try clear hb)
               (try clear hb2)
               (try clear hk)
               (try clear hi)
               refine hK.out _ _ ⟨cl_ ag 0,cl_ ag 1⟩ (fun hHeld=>?_);clear hK K;refine norm_y 60 (h:=?_)
               refine py_ HT_ 3 61 ?_
               refine py_ HT_ 4 62 ?_
               refine pn_ HT_ 5 63 ?_
               refine pn_ HT_ 6 64 ?_
               refine pn_ HT_ 7 65 ?_
               refine pn_ HT_ 8 66 ?_
               refine pn_ HT_ 9 67 ?_
               refine pn_ HT_ 10 68 ?_
               refine pn_ HT_ 11 69 ?_
               refine pn_ HT_ 12 70 ?_
               refine pn_ HT_ 13 71 ?_
               refine pn_ HT_ 14 72 ?_
               refine pn_ HT_ 15 73 ?_
               refine pn_ HT_ 16 74 ?_
               refine py_ HT_ 17 75 ?_
               refine py_ HT_ 18 76 ?_
               refine pn_ HT_ 19 77 ?_
               refine pn_ HT_ 20 78 ?_
               refine pn_ HT_ 21 79 ?_
               refine py_ HT_ 22 80 ?_
               refine done_ (done_of HT_.out (by kernel_rfl)) ?_
               try go_wp2
               go_ret
               exact⟨lf_,sq_below1 HB.out az.out⟩
             ·
              rw [if_neg c23]at H;exact absurd H (by simp)
            ·
             rw [if_neg c22]at H;exact absurd H (by simp)
           ·
            rw [if_neg c21]at H;have dA:=decide_eq_false (p:=ae<((rd_L7 ac aa).length:Int)) c21;clear c21
            by_cases c79:((rd_L7 ac aa).length:Int)=0
            ·
             rw [if_pos c79]at H;have dC:(((rd_L7 ac aa).length:Int) == 0)=true:=beq_iff_eq.mpr c79;have dD:(((rd_L7 ac aa).length:Int) != 0)=false:=bne_eq_false_iff_eq.mpr c79;clear c79;obtain rfl:=Option.some.inj H
             go_wp2
             go_ret
             exact⟨lf_,sq_below1 HB.out ak.out⟩
            ·
             rw [if_neg c79]at H;have dC:(((rd_L7 ac aa).length:Int) == 0)=false:=beq_eq_false_iff_ne.mpr c79;have dD:(((rd_L7 ac aa).length:Int) != 0)=true:=bne_iff_ne.mpr c79;have fF:¬((rd_L7 ac aa)=[]):=fun h_=>c79 (by rw [h_];rfl)
             by_cases c80:a9.length+(rd_L7 ac aa).length<8796093022208
             ·
              rw [if_pos c80]at H;have db:=am_ c80;clear c80;obtain⟨bS,ch⟩:∃ y_:List (S53),y_=(a9++(rd_L7 ac aa)):=⟨_,rfl⟩;replace H:(if(bS.length:Int) > 40 then(some false)else(impl_SegOk.l0 k3 a0 a1 (ac.length:Int) bS ac (ac.length:Int) (wrap64 (aa+1)) ac aG aT))=some r:=by first|(rw [ch];with_reducible exact H)|(have H2_:=(Option.bind_some _ _).symm.trans H;rw [ch];with_reducible exact H2_)|(have H2_:=(Option.bind_some _ _).symm.trans H;with_reducible exact H2_)|with_reducible exact H|(rw [ch];exact H)|exact H
              have dd:=am_ ch;clear ch
              by_cases c81:(bS.length:Int) > 40
              ·
               rw [if_pos c81]at H;have dE:=decide_eq_true (p:=40<(bS.length:Int)) c81;have dF:decide (40<bS.length)=true:=decide_eq_true (by omega);clear c81;obtain rfl:=Option.some.inj H
               go_wp2_with (first|((with_reducible refine gate_builtin (b:=.append) (xs:=#[.tmp 85,.tmp 86]) rfl ?_);(try(refine gate_guard (by rfl) ?_;dsimp only));at_builtin;refine Kd.R_append_rows k53 (w0:=w) w.heap.size rfl (.tmp 85) (.tmp 86) 50 53 (.agg #[(.int .i64 0),(.int .i64 0)]) 16 rfl Tryd.underlying50 info53 rfl (by decide) (by omega) u8 a9 (rd_L7 ac aa) _ _ _ (fun _=>True) (fun _=>False) rfl rfl ?aO ?aR (fun _ _ h=>h) (fun _ h=>h.elim) ?aF ?aB ?aS ?aL ?_;(case aR=>exact sq_c (Kd.C_below aY.out HB.out));(case aB=>exact(sq_below HB.out));(case aF=>exact(fun _ _=>trivial));(case aO=>exact(sq_row ai.out));(case aS=>exact(below_size (sq_below HB.out)));(case aL=>have:=db.out;omega);intro v414 gY ho hb hg hat;rw [← dd.out]at ho;replace HB:=am_ hb;have cy:=am_ ho;clear ai;clear ho hb hg hat;obtain⟨fU,fW,e7⟩:=Kd.R_slice cy.out;subst e7))
               go_ret
               exact⟨lf_,sq_below HB.out⟩
              ·
               rw [if_neg c81]at H;have dE:=decide_eq_false (p:=40<(bS.length:Int)) c81;have dF:decide (40<bS.length)=false:=decide_eq_false (by omega);clear c81;have H':=am_ H;clear H
               go_wp2_with (first|((with_reducible refine gate_builtin (b:=.append) (xs:=#[.tmp 85,.tmp 86]) rfl ?_);(try(refine gate_guard (by rfl) ?_;dsimp only));at_builtin;refine Kd.R_append_rows k53 (w0:=w) w.heap.size rfl (.tmp 85) (.tmp 86) 50 53 (.agg #[(.int .i64 0),(.int .i64 0)]) 16 rfl Tryd.underlying50 info53 rfl (by decide) (by omega) u8 a9 (rd_L7 ac aa) _ _ _ (fun _=>True) (fun _=>False) rfl rfl ?aO ?aR (fun _ _ h=>h) (fun _ h=>h.elim) ?aF ?aB ?aS ?aL ?_;(case aR=>exact sq_c (Kd.C_below aY.out HB.out));(case aB=>exact(sq_below1 HB.out ak.out));(case aF=>exact(fun _ _=>trivial));(case aO=>exact(sq_row ai.out));(case aS=>exact(below_size (sq_below1 HB.out ak.out)));(case aL=>have:=db.out;omega);intro v414 gZ ho hb hg hat;rw [← dd.out]at ho;replace af:=bg_ af ai hg;replace HB:=am_ hb;have cy:=am_ ho;clear ai;clear ho hb hg hat;obtain⟨fV,fX,e8⟩:=Kd.R_slice cy.out;subst e8))
               go_roundg k3
               case measure=>have:=HJ3.out;have:=HK2.out;have:=HK3.out;omega
               case rel=>exact⟨(bS),(wrap64 (aa+1)),sr_,H',⟨by have:=HJ3.out;have:=HK2.out;have:=HK3.out;omega⟩,⟨by(with_reducible repeat(first|apply Kd.R_alloc|apply Kd.R_drewN|apply Kd.R_drew));exact cy.out⟩,bk_ af,⟨sq_below1 HB.out ak.out⟩⟩
             ·
              rw [if_neg c80]at H;exact absurd H (by simp)
        ·
         rw [if_neg c20]at H;exact absurd H (by simp)
       ·
        rw [if_neg c19]at H;exact absurd H (by simp)
      ·
       rw [if_neg c18]at H;have de:=decide_eq_false (p:=aa<(ac.length:Int)) c18;clear c18;replace H:=Option.bind_eq_some_iff.mp H;obtain⟨⟨aI,aQ,aJ,aW⟩,A860,H⟩:=H;(try dsimp only at H);have A86:=am_ A860;clear A860
       by_cases c87:0<(ac.length:Int)
       ·
        rw [if_pos c87]at H;have fG:=decide_eq_true (p:=0<(ac.length:Int)) c87;have fH:decide (0<ac.length)=true:=decide_eq_true (by omega);clear c87;obtain⟨dq,A88,H⟩:=be_ H;(try dsimp only at H)
        by_cases c89:dq=true
        ·
         subst c89;have H1:=ifp_ H
         clear H;have H:=H1;clear H1;obtain⟨bk,bI⟩:∃ j_:Int,(wrap64 ((ac.length:Int)-1))=j_:=⟨_,rfl⟩;replace H:(if 0≤(bk)then(if(bk)<(ac.length:Int)then((impl_Sym_53.f k2 (rd_L7 ac (bk)) aJ aW).bind fun cW=>(if cW=true then((slices_ContainsFunc__impl_SegOk_1.f k2 aG).bind fun cJ=>(some (!cJ)))else(some false)))else(none))else(none))=some r:=by first|(rw [bI]at H;exact H)|(simp only [bI]at H ⊢;exact H)
         (try rw [bI]at A86)
         (try rw [bI]at A88)
         have hji90w:(IntKind.i64.wrap ((ac.length:Int)-1))=bk:=(i64_w _).trans bI
         by_cases c91:0≤(bk)
         ·
          rw [if_pos c91]at H;have fI:=decide_eq_true (p:=0≤(bk)) c91;clear c91
          by_cases c92:(bk)<(ac.length:Int)
          ·
           rw [if_pos c92]at H;have fJ:=decide_eq_true (p:=(bk)<(ac.length:Int)) c92;clear c92;obtain⟨cW,A93,H⟩:=be_ H;(try dsimp only at H)
           by_cases c94:cW=true
           ·
            subst c94;have H1:=ifp_ H
            clear H;have H:=H1;clear H1;replace H:=Option.bind_eq_some_iff.mp H;obtain⟨cJ,A950,H⟩:=H;replace H:(some (!cJ))=some r:=H;have A95:=am_ A950;clear A950;obtain rfl:=Option.some.inj H
            try go_wp2_with (first|((with_reducible refine gate_callee (f:=54) rfl ?_);refine gl_ 94 Tryd.func54 #[.int .i64 a1] (h:=?_);(with_reducible refine(impl_ends.calls a1 aI aQ aJ aW _ A86.out).mono ?_);rintro e hD ⟨rfl,hb⟩;refine⟨_,rfl,?_⟩;replace ai:=rb_ ai hb;replace af:=bb_ af hb;replace HB:=hb1_ HB hb ak;(try clear hb))|((with_reducible refine gate_dst (N:=13) rfl ?_);(try(refine gate_guard (by rfl) ?_;dsimp only));refine box_y 13 #[.int .i64 0,.int .i64 0] 53 (h:=?_);intro ao hg hJ hbox hb;replace ai:=am_ (Kd.R_below (Kd.R_elderB (sq_row ai.out) ao (Nat.le_of_eq hg.symm)) hb);have aj:=am_ hbox;have cZ:=gz1_ hg HB ak;have aK:=gz1_ hg HB ak;replace HB:=hb1_ HB hb ak;have ar:=nb_ hg af;replace af:=bb_ af hb;have bq:=ns_ ar;clear hb hbox hg)|((with_reducible refine gate_dst (N:=14) rfl ?_);(try(refine gate_guard (by rfl) ?_;dsimp only));refine box_y 14 #[.int .i64 0,.int .i64 0] 53 (h:=?_);intro ap hg dr hbox hb;replace ai:=am_ (Kd.R_below (Kd.R_elderB (sq_row ai.out) ap (Nat.le_of_eq hg.symm)) hb);have aq:=am_ hbox;have da:=gz2_ hg HB ak aK;have bh:=gz2_ hg HB ak aK;replace HB:=hb2_ HB hb ak aK;have au:=nb_ hg af;replace af:=bb_ af hb;have br:=ns_ au;have aw:=nb_ hg aj;replace aj:=bb_ aj hb;have aH:=ns_ aw;clear hb hbox hg;have fM:=bq.out;have fP:=ar.out;have fa:=aw.out;have fi:=aH.out;obtain⟨dK,dL,dW,dX⟩:=cz2_ aj;have fb:=br.out;have fj:=au.out;obtain⟨dM,dN,dY,dZ⟩:=cz2_ aq))
            have n0_:Aside0 (Kd.R k53 53 ((((dr.setCell ⟨ao,0,none⟩ (.int .i64 aI)).setCell ⟨ao,1,none⟩ (.int .i64 aQ)).setCell ⟨ap,0,none⟩ (.int .i64 aJ)).setCell ⟨ap,1,none⟩ (.int .i64 aW)) w.heap.size (fun k_=>k_≠ao∧k_≠ap) u8 a9):=⟨by(with_reducible repeat(first|apply Kd.R_alloc|apply Kd.R_drewN|apply Kd.R_drew));exact Kd.R_mono (Kd.R_far (p:=⟨ap,1,none⟩) (Kd.R_far (p:=⟨ap,0,none⟩) (Kd.R_far (p:=⟨ao,1,none⟩) (Kd.R_far (p:=⟨ao,0,none⟩) (Kd.R_mono (Kd.R_mono ai.out (fun k_ hk=>(⟨hk,hk.1.2⟩:_∧k_≠ao))) (fun k_ hk=>(⟨hk,hk.1.2⟩:_∧k_≠ap))) (fun _ hk=>hk.1.2) (.int .i64 aI)) (fun _ hk=>hk.1.2) (.int .i64 aQ)) (fun _ hk=>hk.2) (.int .i64 aJ)) (fun _ hk=>hk.2) (.int .i64 aW)) (fun _ hk=>⟨hk.1.1.1.2,hk.1.1.2⟩)⟩;have n1_:Aside0 (((((dr.setCell ⟨ao,0,none⟩ (.int .i64 aI)).setCell ⟨ao,1,none⟩ (.int .i64 aQ)).setCell ⟨ap,0,none⟩ (.int .i64 aJ)).setCell ⟨ap,1,none⟩ (.int .i64 aW)).heap[bf]?=some (.cells #[.slice cb ac.length bF,.slice bA aG.length bB,.slice bC aT.length bG] 32 (0,0))):=⟨by(with_reducible repeat(first|refine blk_drewN ?_ _|refine blk_drew ?_|refine blk_alloc ?_ _));refine blk_far ?_ au.out _;(with_reducible repeat(first|refine blk_drewN ?_ _|refine blk_drew ?_|refine blk_alloc ?_ _));refine blk_far ?_ au.out _;(with_reducible repeat(first|refine blk_drewN ?_ _|refine blk_drew ?_|refine blk_alloc ?_ _));refine blk_far ?_ ar.out _;(with_reducible repeat(first|refine blk_drewN ?_ _|refine blk_drew ?_|refine blk_alloc ?_ _));refine blk_far ?_ ar.out _;(with_reducible repeat(first|refine blk_drewN ?_ _|refine blk_drew ?_|refine blk_alloc ?_ _));exact af.out⟩;have n2_:Aside0 (((((dr.setCell ⟨ao,0,none⟩ (.int .i64 aI)).setCell ⟨ao,1,none⟩ (.int .i64 aQ)).setCell ⟨ap,0,none⟩ (.int .i64 aJ)).setCell ⟨ap,1,none⟩ (.int .i64 aW)).heap[ao]?=some (.cells #[.int .i64 aI,.int .i64 aQ] 53 (0,0))):=⟨by(with_reducible repeat(first|refine blk_drewN ?_ _|refine blk_drew ?_|refine blk_alloc ?_ _));refine blk_far ?_ aw.out _;(with_reducible repeat(first|refine blk_drewN ?_ _|refine blk_drew ?_|refine blk_alloc ?_ _));refine blk_far ?_ aw.out _;(with_reducible repeat(first|refine blk_drewN ?_ _|refine blk_drew ?_|refine blk_alloc ?_ _));refine blk_put (cs:=#[.int .i64 aI,.int .i64 0]) ?_ 1 _ rfl;(with_reducible repeat(first|refine blk_drewN ?_ _|refine blk_drew ?_|refine blk_alloc ?_ _));refine blk_put (cs:=#[.int .i64 0,.int .i64 0]) ?_ 0 _ rfl;(with_reducible repeat(first|refine blk_drewN ?_ _|refine blk_drew ?_|refine blk_alloc ?_ _));exact aj.out⟩;have n3_:Aside0 (((((dr.setCell ⟨ao,0,none⟩ (.int .i64 aI)).setCell ⟨ao,1,none⟩ (.int .i64 aQ)).setCell ⟨ap,0,none⟩ (.int .i64 aJ)).setCell ⟨ap,1,none⟩ (.int .i64 aW)).heap[ap]?=some (.cells #[.int .i64 aJ,.int .i64 aW] 53 (0,0))):=⟨by(with_reducible repeat(first|refine blk_drewN ?_ _|refine blk_drew ?_|refine blk_alloc ?_ _));refine blk_put (cs:=#[.int .i64 aJ,.int .i64 0]) ?_ 1 _ rfl;(with_reducible repeat(first|refine blk_drewN ?_ _|refine blk_drew ?_|refine blk_alloc ?_ _));refine blk_put (cs:=#[.int .i64 0,.int .i64 0]) ?_ 0 _ rfl;(with_reducible repeat(first|refine blk_drewN ?_ _|refine blk_drew ?_|refine blk_alloc ?_ _));refine blk_far ?_ aH.out _;(with_reducible repeat(first|refine blk_drewN ?_ _|refine blk_drew ?_|refine blk_alloc ?_ _));refine blk_far ?_ aH.out _;(with_reducible repeat(first|refine blk_drewN ?_ _|refine blk_drew ?_|refine blk_alloc ?_ _));exact aq.out⟩;have n4_:Aside0 (Below w.heap.size w ((((dr.setCell ⟨ao,0,none⟩ (.int .i64 aI)).setCell ⟨ao,1,none⟩ (.int .i64 aQ)).setCell ⟨ap,0,none⟩ (.int .i64 aJ)).setCell ⟨ap,1,none⟩ (.int .i64 aW))):=⟨sq_below3 HB.out ak.out aK.out bh.out⟩
            (try clear ai)
            (try clear af)
            (try clear aj)
            (try clear aq)
            (try clear HB)
            generalize ((((dr.setCell ⟨ao,0,none⟩ (.int .i64 aI)).setCell ⟨ao,1,none⟩ (.int .i64 aQ)).setCell ⟨ap,0,none⟩ (.int .i64 aJ)).setCell ⟨ap,1,none⟩ (.int .i64 aW))=fu at n0_ n1_ n2_ n3_ n4_ ⊢;have ai:=n0_;have af:=n1_;have aj:=n2_;have aq:=n3_;have HB:=n4_;clear n0_ n1_ n2_ n3_ n4_;replace ai:=rd_ ai;replace af:=bd_ af;replace aj:=bd_ aj;replace aq:=bd_ aq;replace HB:=hd_ HB;have bP:0≤(0:Int):=(by omega);have bR:0<(ac.length:Int):=sq_dec;obtain⟨bw,bx,bz,cQ,ay,hl422_0,hi422_0⟩:=at_L7 bT.out 0 bP bR;have ax:=ay
            (try rw [show((0:Int)).toNat=0 from rfl]at ax)
            (try rw [show 0*1=0 from rfl]at ax)
            (try rw [Addr.add_zero']at ax)
            cases cQ;have qi422:(0<ac.length)=True:=eq_true (by omega)
            (try rw [show((0:Int)).toNat=0 from rfl]at ay)
            (try rw [Addr.add_zero']at ay)
            replace ay:=cb_ HB ay;have bn:=am_ hi422_0;have bD:=am_ hl422_0;clear hi422_0 hl422_0;replace bP:=eq_true bP;replace bR:=eq_true bR;have cr:0≤((bk):Int):=sq_dec;have cx:(bk)<(ac.length:Int):=sq_dec;obtain⟨cO,bL,bM,dl,bg,hl424_0,hi424_0⟩:=at_L7 bT.out (bk) cr cx;have bo:=bg;obtain rfl:bw=cO:=(by injection dl);replace bg:=cb_ HB bg;have bE:=am_ hi424_0;have bU:=am_ hl424_0;clear hi424_0 hl424_0;replace cr:=eq_true cr;replace cx:=eq_true cx;refine start_ (n:=23) (S:=fun w'=>w'.cell? ⟨bf,0,none⟩=some (.slice (some bw) ac.length bF)∧w'.cell? ⟨bf,1,none⟩=some (.slice bA aG.length bB)∧w'.cell? ⟨bf,2,none⟩=some (.slice bC aT.length bG)∧w'.cell? ⟨ao,0,none⟩=some (.int .i64 aI)∧w'.cell? ⟨ao,1,none⟩=some (.int .i64 aQ)∧w'.cell? ⟨ap,0,none⟩=some (.int .i64 aJ)∧w'.cell? ⟨ap,1,none⟩=some (.int .i64 aW)∧w'.cell? bw=some (.slice bx (rd_L7 ac 0).length bz)∧w'.cell? (bw.add ((bk)).toNat)=some (.slice bL (rd_L7 ac (bk)).length bM)) (ds:=[]) #[false,false,false,false,false,false,false,false,false,false,false,false,false,false,false,false,false,false,false,false,false,false,false] (by kernel_rfl) rfl rfl ⟨cl_ af 0,cl_ af 1,cl_ af 2,cl_ aj 0,cl_ aj 1,cl_ aq 0,cl_ aq 1,(cb_ HB ax),(cb_ HB bo)⟩ (fun hHeld=>?_);refine with_tabW impl_SegOk.tab21 impl_SegOk.bits21 (fun HT_ HW_=>?_);generalize fu.drew=fY at ai af aj aq HB bn bE ay bg hHeld ⊢;refine py_ HT_ 0 97 ?_
            refine ty_ HT_ HW_ 1 98 rfl hHeld (by rintro w' ⟨s0,s1,s2,s3,s4,s5,s6,s7,s8⟩;go_simp;with_reducible rfl) ?_
            refine py_ HT_ 2 99 ?_
            refine ty_ HT_ HW_ 3 100 rfl hHeld (by rintro w' ⟨s0,s1,s2,s3,s4,s5,s6,s7,s8⟩;go_simp;with_reducible rfl) ?_
            refine ty_ HT_ HW_ 4 101 rfl hHeld (by rintro w' ⟨s0,s1,s2,s3,s4,s5,s6,s7,s8⟩;go_simp;with_reducible rfl) ?_
            refine oy_ HT_ 5 (some 102) (fun K hK=>?_);refine gs_ Tryd.func53 #[.slice bx (rd_L7 ac 0).length bz,.agg #[.int .i64 aI,.int .i64 aQ]] (h:=?_);with_reducible refine(impl_Sym_53.calls k2 _ _ (rd_L7 ac 0) aI aQ true _ ?aZ ?a8 A88.out).mono ?_
            (case aZ=>exact sq_c (Kd.C_below bn.out HB.out))
            (case a8=>exact bD.out)
            rintro e fZ ⟨rfl,hb⟩;refine⟨_,rfl,?_⟩;replace ai:=rb_ ai hb;replace af:=bb_ af hb;replace aj:=bb_ aj hb;replace aq:=bb_ aq hb;replace HB:=hb3_ HB hb ak aK bh
            (try clear hb)
            (try clear hb2)
            (try clear hk)
            (try clear hi)
            refine hK.out _ _ ⟨cl_ af 0,cl_ af 1,cl_ af 2,cl_ aj 0,cl_ aj 1,cl_ aq 0,cl_ aq 1,(cb_ HB ax),(cb_ HB bo)⟩ (fun hHeld=>?_);clear hK K;refine norm_y 102 (h:=?_)
            refine py_ HT_ 6 103 ?_
            refine py_ HT_ 7 104 ?_
            refine py_ HT_ 9 106 ?_
            refine py_ HT_ 10 107 ?_
            refine ty_ HT_ HW_ 8 105 rfl hHeld (by rintro w' ⟨s0,s1,s2,s3,s4,s5,s6,s7,s8⟩;go_simp;with_reducible rfl) ?_
            refine py_ HT_ 11 108 ?_
            refine ty_ HT_ HW_ 12 109 rfl hHeld (by rintro w' ⟨s0,s1,s2,s3,s4,s5,s6,s7,s8⟩;go_simp;with_reducible rfl) ?_
            refine ty_ HT_ HW_ 13 110 rfl hHeld (by rintro w' ⟨s0,s1,s2,s3,s4,s5,s6,s7,s8⟩;go_simp;with_reducible rfl) ?_
            refine oy_ HT_ 14 (some 111) (fun K hK=>?_);refine goes_ Tryd.func53 (by kernel_rfl) rfl #[.slice bL (rd_L7 ac (bk)).length bM,.agg #[.int .i64 aJ,.int .i64 aW]] (by rfl) rfl rfl (by(try simp only [List.map_toArray,List.map_cons,List.map_nil]);first|done|(simp only [bI];rfl)|rfl|(simp only [List.length_drop,List.length_take];rfl)) ?_;with_reducible refine(impl_Sym_53.calls k2 _ _ (rd_L7 ac (bk)) aJ aW true _ ?aZ ?a8 A93.out).mono ?_
            (case aZ=>exact sq_c (Kd.C_below bE.out HB.out))
            (case a8=>exact bU.out)
            rintro e f7 ⟨rfl,hb⟩;refine⟨_,rfl,?_⟩;replace ai:=rb_ ai hb;replace af:=bb_ af hb;replace aj:=bb_ aj hb;replace aq:=bb_ aq hb;replace HB:=hb3_ HB hb ak aK bh
            (try clear hb)
            (try clear hb2)
            (try clear hk)
            (try clear hi)
            refine hK.out _ _ ⟨cl_ af 0,cl_ af 1,cl_ af 2,cl_ aj 0,cl_ aj 1,cl_ aq 0,cl_ aq 1,(cb_ HB ax),(cb_ HB bo)⟩ (fun hHeld=>?_);clear hK K;refine norm_y 111 (h:=?_)
            refine py_ HT_ 15 112 ?_
            refine py_ HT_ 16 113 ?_
            refine py_ HT_ 17 114 ?_
            refine ty_ HT_ HW_ 18 115 rfl hHeld (by rintro w' ⟨s0,s1,s2,s3,s4,s5,s6,s7,s8⟩;go_simp;with_reducible rfl) ?_
            refine oy_ HT_ 19 (some 116) (fun K hK=>?_);refine gs_ Tryd.func55 #[.slice bA aG.length bB,.func (.func 56) #[] #[]] (h:=?_);with_reducible refine(slices_ContainsFunc__impl_SegOk_1.calls k2 _ _ aG cJ _ ?ef ?aZ ?a8 A95.out).mono ?_
            (case aZ=>exact sq_c (Kd.C_below dx.out HB.out))
            (case a8=>exact dt.out)
            (case ef=>exact GL1.below HG1.out (sq_below3 HB.out ak.out aK.out bh.out))
            rintro e f9 ⟨rfl,hb⟩;refine⟨_,rfl,?_⟩;replace ai:=rb_ ai hb;replace af:=bb_ af hb;replace aj:=bb_ aj hb;replace aq:=bb_ aq hb;replace HB:=hb3_ HB hb ak aK bh
            (try clear hb)
            (try clear hb2)
            (try clear hk)
            (try clear hi)
            refine hK.out _ _ ⟨cl_ af 0,cl_ af 1,cl_ af 2,cl_ aj 0,cl_ aj 1,cl_ aq 0,cl_ aq 1,(cb_ HB ax),(cb_ HB bo)⟩ (fun hHeld=>?_);clear hK K;refine norm_y 116 (h:=?_)
            refine py_ HT_ 20 117 ?_
            refine py_ HT_ 21 118 ?_
            refine py_ HT_ 22 6 ?_
            refine done_ (done_of HT_.out (by kernel_rfl)) ?_
            try go_wp2
            go_ret
            exact⟨by first|rfl|(simp [errW_none,errW_some]<;>rfl)|(simp only [← bI];first|rfl|(simp [errW_none,errW_some]<;>rfl))|(simp [*,errW_none,errW_some]<;>rfl),sq_below3 HB.out ak.out aK.out bh.out⟩
           ·
            replace c94:=Bool.eq_false_iff.mpr c94;subst c94;have H1:=ifn_ H
            clear H;have H:=H1;clear H1;obtain rfl:=Option.some.inj H
            try go_wp2_with (first|((with_reducible refine gate_callee (f:=54) rfl ?_);refine gl_ 94 Tryd.func54 #[.int .i64 a1] (h:=?_);(with_reducible refine(impl_ends.calls a1 aI aQ aJ aW _ A86.out).mono ?_);rintro e gc ⟨rfl,hb⟩;refine⟨_,rfl,?_⟩;replace ai:=rb_ ai hb;replace af:=bb_ af hb;replace HB:=hb1_ HB hb ak;(try clear hb))|((with_reducible refine gate_dst (N:=13) rfl ?_);(try(refine gate_guard (by rfl) ?_;dsimp only));refine box_y 13 #[.int .i64 0,.int .i64 0] 53 (h:=?_);intro ao hg ge hbox hb;replace ai:=am_ (Kd.R_below (Kd.R_elderB (sq_row ai.out) ao (Nat.le_of_eq hg.symm)) hb);have aj:=am_ hbox;have cZ:=gz1_ hg HB ak;have aK:=gz1_ hg HB ak;replace HB:=hb1_ HB hb ak;have ar:=nb_ hg af;replace af:=bb_ af hb;have bq:=ns_ ar;clear hb hbox hg)|((with_reducible refine gate_dst (N:=14) rfl ?_);(try(refine gate_guard (by rfl) ?_;dsimp only));refine box_y 14 #[.int .i64 0,.int .i64 0] 53 (h:=?_);intro ap hg cK hbox hb;replace ai:=am_ (Kd.R_below (Kd.R_elderB (sq_row ai.out) ap (Nat.le_of_eq hg.symm)) hb);have aq:=am_ hbox;have da:=gz2_ hg HB ak aK;have bh:=gz2_ hg HB ak aK;replace HB:=hb2_ HB hb ak aK;have au:=nb_ hg af;replace af:=bb_ af hb;have br:=ns_ au;have aw:=nb_ hg aj;replace aj:=bb_ aj hb;have aH:=ns_ aw;clear hb hbox hg;have fc:=bq.out;have fk:=ar.out;have fd:=aw.out;have fl:=aH.out;obtain⟨dO,dP,d5,d6⟩:=cz2_ aj;have fe:=br.out;have fm:=au.out;obtain⟨dQ,dR,d7,d8⟩:=cz2_ aq))
            have n0_:Aside0 (Kd.R k53 53 ((((cK.setCell ⟨ao,0,none⟩ (.int .i64 aI)).setCell ⟨ao,1,none⟩ (.int .i64 aQ)).setCell ⟨ap,0,none⟩ (.int .i64 aJ)).setCell ⟨ap,1,none⟩ (.int .i64 aW)) w.heap.size (fun k_=>k_≠ao∧k_≠ap) u8 a9):=⟨by(with_reducible repeat(first|apply Kd.R_alloc|apply Kd.R_drewN|apply Kd.R_drew));exact Kd.R_mono (Kd.R_far (p:=⟨ap,1,none⟩) (Kd.R_far (p:=⟨ap,0,none⟩) (Kd.R_far (p:=⟨ao,1,none⟩) (Kd.R_far (p:=⟨ao,0,none⟩) (Kd.R_mono (Kd.R_mono ai.out (fun k_ hk=>(⟨hk,hk.1.2⟩:_∧k_≠ao))) (fun k_ hk=>(⟨hk,hk.1.2⟩:_∧k_≠ap))) (fun _ hk=>hk.1.2) (.int .i64 aI)) (fun _ hk=>hk.1.2) (.int .i64 aQ)) (fun _ hk=>hk.2) (.int .i64 aJ)) (fun _ hk=>hk.2) (.int .i64 aW)) (fun _ hk=>⟨hk.1.1.1.2,hk.1.1.2⟩)⟩;have n1_:Aside0 (((((cK.setCell ⟨ao,0,none⟩ (.int .i64 aI)).setCell ⟨ao,1,none⟩ (.int .i64 aQ)).setCell ⟨ap,0,none⟩ (.int .i64 aJ)).setCell ⟨ap,1,none⟩ (.int .i64 aW)).heap[bf]?=some (.cells #[.slice cb ac.length bF,.slice bA aG.length bB,.slice bC aT.length bG] 32 (0,0))):=⟨by(with_reducible repeat(first|refine blk_drewN ?_ _|refine blk_drew ?_|refine blk_alloc ?_ _));refine blk_far ?_ au.out _;(with_reducible repeat(first|refine blk_drewN ?_ _|refine blk_drew ?_|refine blk_alloc ?_ _));refine blk_far ?_ au.out _;(with_reducible repeat(first|refine blk_drewN ?_ _|refine blk_drew ?_|refine blk_alloc ?_ _));refine blk_far ?_ ar.out _;(with_reducible repeat(first|refine blk_drewN ?_ _|refine blk_drew ?_|refine blk_alloc ?_ _));refine blk_far ?_ ar.out _;(with_reducible repeat(first|refine blk_drewN ?_ _|refine blk_drew ?_|refine blk_alloc ?_ _));exact af.out⟩;have n2_:Aside0 (((((cK.setCell ⟨ao,0,none⟩ (.int .i64 aI)).setCell ⟨ao,1,none⟩ (.int .i64 aQ)).setCell ⟨ap,0,none⟩ (.int .i64 aJ)).setCell ⟨ap,1,none⟩ (.int .i64 aW)).heap[ao]?=some (.cells #[.int .i64 aI,.int .i64 aQ] 53 (0,0))):=⟨by(with_reducible repeat(first|refine blk_drewN ?_ _|refine blk_drew ?_|refine blk_alloc ?_ _));refine blk_far ?_ aw.out _;(with_reducible repeat(first|refine blk_drewN ?_ _|refine blk_drew ?_|refine blk_alloc ?_ _));refine blk_far ?_ aw.out _;(with_reducible repeat(first|refine blk_drewN ?_ _|refine blk_drew ?_|refine blk_alloc ?_ _));refine blk_put (cs:=#[.int .i64 aI,.int .i64 0]) ?_ 1 _ rfl;(with_reducible repeat(first|refine blk_drewN ?_ _|refine blk_drew ?_|refine blk_alloc ?_ _));refine blk_put (cs:=#[.int .i64 0,.int .i64 0]) ?_ 0 _ rfl;(with_reducible repeat(first|refine blk_drewN ?_ _|refine blk_drew ?_|refine blk_alloc ?_ _));exact aj.out⟩;have n3_:Aside0 (((((cK.setCell ⟨ao,0,none⟩ (.int .i64 aI)).setCell ⟨ao,1,none⟩ (.int .i64 aQ)).setCell ⟨ap,0,none⟩ (.int .i64 aJ)).setCell ⟨ap,1,none⟩ (.int .i64 aW)).heap[ap]?=some (.cells #[.int .i64 aJ,.int .i64 aW] 53 (0,0))):=⟨by(with_reducible repeat(first|refine blk_drewN ?_ _|refine blk_drew ?_|refine blk_alloc ?_ _));refine blk_put (cs:=#[.int .i64 aJ,.int .i64 0]) ?_ 1 _ rfl;(with_reducible repeat(first|refine blk_drewN ?_ _|refine blk_drew ?_|refine blk_alloc ?_ _));refine blk_put (cs:=#[.int .i64 0,.int .i64 0]) ?_ 0 _ rfl;(with_reducible repeat(first|refine blk_drewN ?_ _|refine blk_drew ?_|refine blk_alloc ?_ _));refine blk_far ?_ aH.out _;(with_reducible repeat(first|refine blk_drewN ?_ _|refine blk_drew ?_|refine blk_alloc ?_ _));refine blk_far ?_ aH.out _;(with_reducible repeat(first|refine blk_drewN ?_ _|refine blk_drew ?_|refine blk_alloc ?_ _));exact aq.out⟩;have n4_:Aside0 (Below w.heap.size w ((((cK.setCell ⟨ao,0,none⟩ (.int .i64 aI)).setCell ⟨ao,1,none⟩ (.int .i64 aQ)).setCell ⟨ap,0,none⟩ (.int .i64 aJ)).setCell ⟨ap,1,none⟩ (.int .i64 aW))):=⟨sq_below3 HB.out ak.out aK.out bh.out⟩
            (try clear ai)
            (try clear af)
            (try clear aj)
            (try clear aq)
            (try clear HB)
            generalize ((((cK.setCell ⟨ao,0,none⟩ (.int .i64 aI)).setCell ⟨ao,1,none⟩ (.int .i64 aQ)).setCell ⟨ap,0,none⟩ (.int .i64 aJ)).setCell ⟨ap,1,none⟩ (.int .i64 aW))=fv at n0_ n1_ n2_ n3_ n4_ ⊢;have ai:=n0_;have af:=n1_;have aj:=n2_;have aq:=n3_;have HB:=n4_;clear n0_ n1_ n2_ n3_ n4_;replace ai:=rd_ ai;replace af:=bd_ af;replace aj:=bd_ aj;replace aq:=bd_ aq;replace HB:=hd_ HB;have bP:0≤(0:Int):=(by omega);have bR:0<(ac.length:Int):=sq_dec;obtain⟨bw,bx,bz,cQ,ay,hl422_0,hi422_0⟩:=at_L7 bT.out 0 bP bR;have ax:=ay
            (try rw [show((0:Int)).toNat=0 from rfl]at ax)
            (try rw [show 0*1=0 from rfl]at ax)
            (try rw [Addr.add_zero']at ax)
            cases cQ;have qi422:(0<ac.length)=True:=eq_true (by omega)
            (try rw [show((0:Int)).toNat=0 from rfl]at ay)
            (try rw [Addr.add_zero']at ay)
            replace ay:=cb_ HB ay;have bn:=am_ hi422_0;have bD:=am_ hl422_0;clear hi422_0 hl422_0;replace bP:=eq_true bP;replace bR:=eq_true bR;have cr:0≤((bk):Int):=sq_dec;have cx:(bk)<(ac.length:Int):=sq_dec;obtain⟨cO,bL,bM,dl,bg,hl424_0,hi424_0⟩:=at_L7 bT.out (bk) cr cx;have bo:=bg;obtain rfl:bw=cO:=(by injection dl);replace bg:=cb_ HB bg;have bE:=am_ hi424_0;have bU:=am_ hl424_0;clear hi424_0 hl424_0;replace cr:=eq_true cr;replace cx:=eq_true cx;refine start_ (n:=23) (S:=fun w'=>w'.cell? ⟨bf,0,none⟩=some (.slice (some bw) ac.length bF)∧w'.cell? ⟨bf,1,none⟩=some (.slice bA aG.length bB)∧w'.cell? ⟨bf,2,none⟩=some (.slice bC aT.length bG)∧w'.cell? ⟨ao,0,none⟩=some (.int .i64 aI)∧w'.cell? ⟨ao,1,none⟩=some (.int .i64 aQ)∧w'.cell? ⟨ap,0,none⟩=some (.int .i64 aJ)∧w'.cell? ⟨ap,1,none⟩=some (.int .i64 aW)∧w'.cell? bw=some (.slice bx (rd_L7 ac 0).length bz)∧w'.cell? (bw.add ((bk)).toNat)=some (.slice bL (rd_L7 ac (bk)).length bM)) (ds:=[]) #[false,false,false,false,false,false,false,false,false,false,false,false,false,false,false,false,false,false,false,false,false,false,false] (by kernel_rfl) rfl rfl ⟨cl_ af 0,cl_ af 1,cl_ af 2,cl_ aj 0,cl_ aj 1,cl_ aq 0,cl_ aq 1,(cb_ HB ax),(cb_ HB bo)⟩ (fun hHeld=>?_);refine with_tabW impl_SegOk.tab21 impl_SegOk.bits21 (fun HT_ HW_=>?_);generalize fv.drew=gf at ai af aj aq HB bn bE ay bg hHeld ⊢;refine py_ HT_ 0 97 ?_
            refine ty_ HT_ HW_ 1 98 rfl hHeld (by rintro w' ⟨s0,s1,s2,s3,s4,s5,s6,s7,s8⟩;go_simp;with_reducible rfl) ?_
            refine py_ HT_ 2 99 ?_
            refine ty_ HT_ HW_ 3 100 rfl hHeld (by rintro w' ⟨s0,s1,s2,s3,s4,s5,s6,s7,s8⟩;go_simp;with_reducible rfl) ?_
            refine ty_ HT_ HW_ 4 101 rfl hHeld (by rintro w' ⟨s0,s1,s2,s3,s4,s5,s6,s7,s8⟩;go_simp;with_reducible rfl) ?_
            refine oy_ HT_ 5 (some 102) (fun K hK=>?_);refine gs_ Tryd.func53 #[.slice bx (rd_L7 ac 0).length bz,.agg #[.int .i64 aI,.int .i64 aQ]] (h:=?_);with_reducible refine(impl_Sym_53.calls k2 _ _ (rd_L7 ac 0) aI aQ true _ ?aZ ?a8 A88.out).mono ?_
            (case aZ=>exact sq_c (Kd.C_below bn.out HB.out))
            (case a8=>exact bD.out)
            rintro e gh ⟨rfl,hb⟩;refine⟨_,rfl,?_⟩;replace ai:=rb_ ai hb;replace af:=bb_ af hb;replace aj:=bb_ aj hb;replace aq:=bb_ aq hb;replace HB:=hb3_ HB hb ak aK bh
            (try clear hb)
            (try clear hb2)
            (try clear hk)
            (try clear hi)
            refine hK.out _ _ ⟨cl_ af 0,cl_ af 1,cl_ af 2,cl_ aj 0,cl_ aj 1,cl_ aq 0,cl_ aq 1,(cb_ HB ax),(cb_ HB bo)⟩ (fun hHeld=>?_);clear hK K;refine norm_y 102 (h:=?_)
            refine py_ HT_ 6 103 ?_
            refine py_ HT_ 7 104 ?_
            refine py_ HT_ 9 106 ?_
            refine py_ HT_ 10 107 ?_
            refine ty_ HT_ HW_ 8 105 rfl hHeld (by rintro w' ⟨s0,s1,s2,s3,s4,s5,s6,s7,s8⟩;go_simp;with_reducible rfl) ?_
            refine py_ HT_ 11 108 ?_
            refine ty_ HT_ HW_ 12 109 rfl hHeld (by rintro w' ⟨s0,s1,s2,s3,s4,s5,s6,s7,s8⟩;go_simp;with_reducible rfl) ?_
            refine ty_ HT_ HW_ 13 110 rfl hHeld (by rintro w' ⟨s0,s1,s2,s3,s4,s5,s6,s7,s8⟩;go_simp;with_reducible rfl) ?_
            refine oy_ HT_ 14 (some 111) (fun K hK=>?_);refine goes_ Tryd.func53 (by kernel_rfl) rfl #[.slice bL (rd_L7 ac (bk)).length bM,.agg #[.int .i64 aJ,.int .i64 aW]] (by rfl) rfl rfl (by(try simp only [List.map_toArray,List.map_cons,List.map_nil]);first|done|(simp only [bI];rfl)|rfl|(simp only [List.length_drop,List.length_take];rfl)) ?_;with_reducible refine(impl_Sym_53.calls k2 _ _ (rd_L7 ac (bk)) aJ aW false _ ?aZ ?a8 A93.out).mono ?_
            (case aZ=>exact sq_c (Kd.C_below bE.out HB.out))
            (case a8=>exact bU.out)
            rintro e gi ⟨rfl,hb⟩;refine⟨_,rfl,?_⟩;replace ai:=rb_ ai hb;replace af:=bb_ af hb;replace aj:=bb_ aj hb;replace aq:=bb_ aq hb;replace HB:=hb3_ HB hb ak aK bh
            (try clear hb)
            (try clear hb2)
            (try clear hk)
            (try clear hi)
            refine hK.out _ _ ⟨cl_ af 0,cl_ af 1,cl_ af 2,cl_ aj 0,cl_ aj 1,cl_ aq 0,cl_ aq 1,(cb_ HB ax),(cb_ HB bo)⟩ (fun hHeld=>?_);clear hK K;refine norm_y 111 (h:=?_)
            refine py_ HT_ 15 112 ?_
            refine py_ HT_ 16 113 ?_
            refine pn_ HT_ 17 114 ?_
            refine pn_ HT_ 18 115 ?_
            refine pn_ HT_ 19 116 ?_
            refine pn_ HT_ 20 117 ?_
            refine py_ HT_ 21 118 ?_
            refine py_ HT_ 22 6 ?_
            refine done_ (done_of HT_.out (by kernel_rfl)) ?_
            try go_wp2
            go_ret
            exact⟨by first|rfl|(simp [errW_none,errW_some]<;>rfl)|(simp only [← bI];first|rfl|(simp [errW_none,errW_some]<;>rfl))|(simp [*,errW_none,errW_some]<;>rfl),sq_below3 HB.out ak.out aK.out bh.out⟩
          ·
           rw [if_neg c92]at H;exact absurd H (by simp)
         ·
          rw [if_neg c91]at H;exact absurd H (by simp)
        ·
         replace c89:=Bool.eq_false_iff.mpr c89;subst c89;have H1:=ifn_ H
         clear H;have H:=H1;clear H1;obtain rfl:=Option.some.inj H
         try go_wp2_with (first|((with_reducible refine gate_callee (f:=54) rfl ?_);refine gl_ 94 Tryd.func54 #[.int .i64 a1] (h:=?_);(with_reducible refine(impl_ends.calls a1 aI aQ aJ aW _ A86.out).mono ?_);rintro e gj ⟨rfl,hb⟩;refine⟨_,rfl,?_⟩;replace ai:=rb_ ai hb;replace af:=bb_ af hb;replace HB:=hb1_ HB hb ak;(try clear hb))|((with_reducible refine gate_dst (N:=13) rfl ?_);(try(refine gate_guard (by rfl) ?_;dsimp only));refine box_y 13 #[.int .i64 0,.int .i64 0] 53 (h:=?_);intro ao hg gl hbox hb;replace ai:=am_ (Kd.R_below (Kd.R_elderB (sq_row ai.out) ao (Nat.le_of_eq hg.symm)) hb);have aj:=am_ hbox;have cZ:=gz1_ hg HB ak;have aK:=gz1_ hg HB ak;replace HB:=hb1_ HB hb ak;have ar:=nb_ hg af;replace af:=bb_ af hb;have bq:=ns_ ar;clear hb hbox hg)|((with_reducible refine gate_dst (N:=14) rfl ?_);(try(refine gate_guard (by rfl) ?_;dsimp only));refine box_y 14 #[.int .i64 0,.int .i64 0] 53 (h:=?_);intro ap hg cM hbox hb;replace ai:=am_ (Kd.R_below (Kd.R_elderB (sq_row ai.out) ap (Nat.le_of_eq hg.symm)) hb);have aq:=am_ hbox;have da:=gz2_ hg HB ak aK;have bh:=gz2_ hg HB ak aK;replace HB:=hb2_ HB hb ak aK;have au:=nb_ hg af;replace af:=bb_ af hb;have br:=ns_ au;have aw:=nb_ hg aj;replace aj:=bb_ aj hb;have aH:=ns_ aw;clear hb hbox hg;have ff:=bq.out;have fo:=ar.out;have fg:=aw.out;have fp:=aH.out;obtain⟨dS,dT,d9,ec⟩:=cz2_ aj;have fh:=br.out;have fq:=au.out;obtain⟨dU,dV,ed,ee⟩:=cz2_ aq))
         have n0_:Aside0 (Kd.R k53 53 ((((cM.setCell ⟨ao,0,none⟩ (.int .i64 aI)).setCell ⟨ao,1,none⟩ (.int .i64 aQ)).setCell ⟨ap,0,none⟩ (.int .i64 aJ)).setCell ⟨ap,1,none⟩ (.int .i64 aW)) w.heap.size (fun k_=>k_≠ao∧k_≠ap) u8 a9):=⟨by(with_reducible repeat(first|apply Kd.R_alloc|apply Kd.R_drewN|apply Kd.R_drew));exact Kd.R_mono (Kd.R_far (p:=⟨ap,1,none⟩) (Kd.R_far (p:=⟨ap,0,none⟩) (Kd.R_far (p:=⟨ao,1,none⟩) (Kd.R_far (p:=⟨ao,0,none⟩) (Kd.R_mono (Kd.R_mono ai.out (fun k_ hk=>(⟨hk,hk.1.2⟩:_∧k_≠ao))) (fun k_ hk=>(⟨hk,hk.1.2⟩:_∧k_≠ap))) (fun _ hk=>hk.1.2) (.int .i64 aI)) (fun _ hk=>hk.1.2) (.int .i64 aQ)) (fun _ hk=>hk.2) (.int .i64 aJ)) (fun _ hk=>hk.2) (.int .i64 aW)) (fun _ hk=>⟨hk.1.1.1.2,hk.1.1.2⟩)⟩;have n1_:Aside0 (((((cM.setCell ⟨ao,0,none⟩ (.int .i64 aI)).setCell ⟨ao,1,none⟩ (.int .i64 aQ)).setCell ⟨ap,0,none⟩ (.int .i64 aJ)).setCell ⟨ap,1,none⟩ (.int .i64 aW)).heap[bf]?=some (.cells #[.slice cb ac.length bF,.slice bA aG.length bB,.slice bC aT.length bG] 32 (0,0))):=⟨by(with_reducible repeat(first|refine blk_drewN ?_ _|refine blk_drew ?_|refine blk_alloc ?_ _));refine blk_far ?_ au.out _;(with_reducible repeat(first|refine blk_drewN ?_ _|refine blk_drew ?_|refine blk_alloc ?_ _));refine blk_far ?_ au.out _;(with_reducible repeat(first|refine blk_drewN ?_ _|refine blk_drew ?_|refine blk_alloc ?_ _));refine blk_far ?_ ar.out _;(with_reducible repeat(first|refine blk_drewN ?_ _|refine blk_drew ?_|refine blk_alloc ?_ _));refine blk_far ?_ ar.out _;(with_reducible repeat(first|refine blk_drewN ?_ _|refine blk_drew ?_|refine blk_alloc ?_ _));exact af.out⟩;have n2_:Aside0 (((((cM.setCell ⟨ao,0,none⟩ (.int .i64 aI)).setCell ⟨ao,1,none⟩ (.int .i64 aQ)).setCell ⟨ap,0,none⟩ (.int .i64 aJ)).setCell ⟨ap,1,none⟩ (.int .i64 aW)).heap[ao]?=some (.cells #[.int .i64 aI,.int .i64 aQ] 53 (0,0))):=⟨by(with_reducible repeat(first|refine blk_drewN ?_ _|refine blk_drew ?_|refine blk_alloc ?_ _));refine blk_far ?_ aw.out _;(with_reducible repeat(first|refine blk_drewN ?_ _|refine blk_drew ?_|refine blk_alloc ?_ _));refine blk_far ?_ aw.out _;(with_reducible repeat(first|refine blk_drewN ?_ _|refine blk_drew ?_|refine blk_alloc ?_ _));refine blk_put (cs:=#[.int .i64 aI,.int .i64 0]) ?_ 1 _ rfl;(with_reducible repeat(first|refine blk_drewN ?_ _|refine blk_drew ?_|refine blk_alloc ?_ _));refine blk_put (cs:=#[.int .i64 0,.int .i64 0]) ?_ 0 _ rfl;(with_reducible repeat(first|refine blk_drewN ?_ _|refine blk_drew ?_|refine blk_alloc ?_ _));exact aj.out⟩;have n3_:Aside0 (((((cM.setCell ⟨ao,0,none⟩ (.int .i64 aI)).setCell ⟨ao,1,none⟩ (.int .i64 aQ)).setCell ⟨ap,0,none⟩ (.int .i64 aJ)).setCell ⟨ap,1,none⟩ (.int .i64 aW)).heap[ap]?=some (.cells #[.int .i64 aJ,.int .i64 aW] 53 (0,0))):=⟨by(with_reducible repeat(first|refine blk_drewN ?_ _|refine blk_drew ?_|refine blk_alloc ?_ _));refine blk_put (cs:=#[.int .i64 aJ,.int .i64 0]) ?_ 1 _ rfl;(with_reducible repeat(first|refine blk_drewN ?_ _|refine blk_drew ?_|refine blk_alloc ?_ _));refine blk_put (cs:=#[.int .i64 0,.int .i64 0]) ?_ 0 _ rfl;(with_reducible repeat(first|refine blk_drewN ?_ _|refine blk_drew ?_|refine blk_alloc ?_ _));refine blk_far ?_ aH.out _;(with_reducible repeat(first|refine blk_drewN ?_ _|refine blk_drew ?_|refine blk_alloc ?_ _));refine blk_far ?_ aH.out _;(with_reducible repeat(first|refine blk_drewN ?_ _|refine blk_drew ?_|refine blk_alloc ?_ _));exact aq.out⟩;have n4_:Aside0 (Below w.heap.size w ((((cM.setCell ⟨ao,0,none⟩ (.int .i64 aI)).setCell ⟨ao,1,none⟩ (.int .i64 aQ)).setCell ⟨ap,0,none⟩ (.int .i64 aJ)).setCell ⟨ap,1,none⟩ (.int .i64 aW))):=⟨sq_below3 HB.out ak.out aK.out bh.out⟩
         (try clear ai)
         (try clear af)
         (try clear aj)
         (try clear aq)
         (try clear HB)
         generalize ((((cM.setCell ⟨ao,0,none⟩ (.int .i64 aI)).setCell ⟨ao,1,none⟩ (.int .i64 aQ)).setCell ⟨ap,0,none⟩ (.int .i64 aJ)).setCell ⟨ap,1,none⟩ (.int .i64 aW))=fw at n0_ n1_ n2_ n3_ n4_ ⊢;have ai:=n0_;have af:=n1_;have aj:=n2_;have aq:=n3_;have HB:=n4_;clear n0_ n1_ n2_ n3_ n4_;replace ai:=rd_ ai;replace af:=bd_ af;replace aj:=bd_ aj;replace aq:=bd_ aq;replace HB:=hd_ HB;have bP:0≤(0:Int):=(by omega);have bR:0<(ac.length:Int):=sq_dec;obtain⟨bw,bx,bz,cQ,ay,hl422_0,hi422_0⟩:=at_L7 bT.out 0 bP bR;have ax:=ay
         (try rw [show((0:Int)).toNat=0 from rfl]at ax)
         (try rw [show 0*1=0 from rfl]at ax)
         (try rw [Addr.add_zero']at ax)
         cases cQ;have qi422:(0<ac.length)=True:=eq_true (by omega)
         (try rw [show((0:Int)).toNat=0 from rfl]at ay)
         (try rw [Addr.add_zero']at ay)
         replace ay:=cb_ HB ay;have bn:=am_ hi422_0;have bD:=am_ hl422_0;clear hi422_0 hl422_0;replace bP:=eq_true bP;replace bR:=eq_true bR;refine start_ (n:=23) (S:=fun w'=>w'.cell? ⟨bf,0,none⟩=some (.slice (some bw) ac.length bF)∧w'.cell? ⟨bf,1,none⟩=some (.slice bA aG.length bB)∧w'.cell? ⟨bf,2,none⟩=some (.slice bC aT.length bG)∧w'.cell? ⟨ao,0,none⟩=some (.int .i64 aI)∧w'.cell? ⟨ao,1,none⟩=some (.int .i64 aQ)∧w'.cell? bw=some (.slice bx (rd_L7 ac 0).length bz)) (ds:=[]) #[false,false,false,false,false,false,false,false,false,false,false,false,false,false,false,false,false,false,false,false,false,false,false] (by kernel_rfl) rfl rfl ⟨cl_ af 0,cl_ af 1,cl_ af 2,cl_ aj 0,cl_ aj 1,(cb_ HB ax)⟩ (fun hHeld=>?_);refine with_tabW impl_SegOk.tab21 impl_SegOk.bits21 (fun HT_ HW_=>?_);generalize fw.drew=gm at ai af aj aq HB bn ay hHeld ⊢;refine py_ HT_ 0 97 ?_
         refine ty_ HT_ HW_ 1 98 rfl hHeld (by rintro w' ⟨s0,s1,s2,s3,s4,s5⟩;go_simp;with_reducible rfl) ?_
         refine py_ HT_ 2 99 ?_
         refine ty_ HT_ HW_ 3 100 rfl hHeld (by rintro w' ⟨s0,s1,s2,s3,s4,s5⟩;go_simp;with_reducible rfl) ?_
         refine ty_ HT_ HW_ 4 101 rfl hHeld (by rintro w' ⟨s0,s1,s2,s3,s4,s5⟩;go_simp;with_reducible rfl) ?_
         refine oy_ HT_ 5 (some 102) (fun K hK=>?_);refine gs_ Tryd.func53 #[.slice bx (rd_L7 ac 0).length bz,.agg #[.int .i64 aI,.int .i64 aQ]] (h:=?_);with_reducible refine(impl_Sym_53.calls k2 _ _ (rd_L7 ac 0) aI aQ false _ ?aZ ?a8 A88.out).mono ?_
         (case aZ=>exact sq_c (Kd.C_below bn.out HB.out))
         (case a8=>exact bD.out)
         rintro e gn ⟨rfl,hb⟩;refine⟨_,rfl,?_⟩;replace ai:=rb_ ai hb;replace af:=bb_ af hb;replace aj:=bb_ aj hb;replace aq:=bb_ aq hb;replace HB:=hb3_ HB hb ak aK bh
         (try clear hb)
         (try clear hb2)
         (try clear hk)
         (try clear hi)
         refine hK.out _ _ ⟨cl_ af 0,cl_ af 1,cl_ af 2,cl_ aj 0,cl_ aj 1,(cb_ HB ax)⟩ (fun hHeld=>?_);clear hK K;refine norm_y 102 (h:=?_)
         refine py_ HT_ 6 103 ?_
         refine pn_ HT_ 7 104 ?_
         refine pn_ HT_ 8 105 ?_
         refine pn_ HT_ 9 106 ?_
         refine pn_ HT_ 10 107 ?_
         refine pn_ HT_ 11 108 ?_
         refine pn_ HT_ 12 109 ?_
         refine pn_ HT_ 13 110 ?_
         refine pn_ HT_ 14 111 ?_
         refine py_ HT_ 15 112 ?_
         refine py_ HT_ 16 113 ?_
         refine pn_ HT_ 17 114 ?_
         refine pn_ HT_ 18 115 ?_
         refine pn_ HT_ 19 116 ?_
         refine pn_ HT_ 20 117 ?_
         refine py_ HT_ 21 118 ?_
         refine py_ HT_ 22 6 ?_
         refine done_ (done_of HT_.out (by kernel_rfl)) ?_
         try go_wp2
         go_ret
         exact⟨lf_,sq_below3 HB.out ak.out aK.out bh.out⟩
       ·
        rw [if_neg c87]at H;exact absurd H (by simp)
end Go.Proofs.YtcdeojfeebmonaaDoor.Q
