/- Functions of the translation as Lean functions, each with a proof that a call answers so; out of the seat, by this claim's own program prt.py. -/
import Derived.Test.YtcdeojfeebmonaaDoorWTab
import Derived.Test.YtcdeojfeebmonaaDoorWRepsOne
import Derived.Test.YtcdeojfeebmonaaDoorQx0
import Derived.Test.YtcdeojfeebmonaaDoorQx9
import Derived.Test.YtcdeojfeebmonaaDoorQx11
import Derived.Test.YtcdeojfeebmonaaDoorQStep3
namespace Go.Proofs.YtcdeojfeebmonaaDoor.Q
open Go.RowKit Go.Proofs.YtcdeojfeebmonaaDoorW.PrintWords Go.Proofs.YtcdeojfeebmonaaDoorW.PrintLast Go.Proofs.YtcdeojfeebmonaaDoorW.PrintMore
attribute [local go_sem] max2_int min2_int max_two min_two max_three min_three max_four min_four
set_option linter.unusedVariables false
set_option maxHeartbeats 8000000
set_option maxRecDepth 100000
set_option linter.unusedSimpArgs false
mutual
def spec_l11Told.l0:Nat→List (S98)→Bool→Int→Int→List (List (S53))→List (S60)→List Bool→List (List (S53))→List (S60)→List Bool→Option ((List (List (S53)))×(List (S60))×List Bool)
 |0,_,_,_,_,_,_,_,_,_,_=>none
 |k+1,x1,x2,x8,x9,bn,aV,a9,aW,ba,bc=>if x9<(x1.length:Int)then(if 0≤x9 then(if x2=true then(spec_l11Told.j1 k x1 x2 x8 x9 ((rd_T98 x1 x9).f1) bn aV a9 aW ba bc)else(spec_l11Told.j1 k x1 x2 x8 x9 ((rd_T98 x1 x9).f0) bn aV a9 aW ba bc))else(none))else(some (aW,ba,bc))
def spec_l11Told.j1:Nat→List (S98)→Bool→Int→Int→Int→List (List (S53))→List (S60)→List Bool→List (List (S53))→List (S60)→List Bool→Option ((List (List (S53)))×(List (S60))×List Bool)
 |0,_,_,_,_,_,_,_,_,_,_,_=>none
 |k+1,x1,x2,x8,x9,x10,bn,aV,a9,aW,ba,bc=>if x9 > 0 then((spec_l09None.f).bind fun dc=>(spec_l11Told.l1 k x1 x2 x9 x10 true x8 bn aV a9 aW ba bc dc.1 dc.2.1 dc.2.2))else((some (([]:List (S53)):List (S53))).bind fun cA=>(if 0≤x9 then(if x9<(x1.length:Int)then(if cA.length+((rd_T98 x1 x9).f2).length<8796093022208 then(if aW.length<5864062014805 then(spec_l11Told.l0 k x1 x2 x10 (wrap64 (x9+1)) bn aV a9 (aW++[(cA++((rd_T98 x1 x9).f2))]) ba bc)else(none))else(none))else(none))else(none)))
def spec_l11Told.l1:Nat→List (S98)→Bool→Int→Int→Bool→Int→List (List (S53))→List (S60)→List Bool→List (List (S53))→List (S60)→List Bool→Int→Int→Bool→Option ((List (List (S53)))×(List (S60))×List Bool)
 |0,_,_,_,_,_,_,_,_,_,_,_,_,_,_,_=>none
 |k+1,x1,x2,x9,x10,x12,x13,bn,aV,a9,aW,ba,bc,cQ,cR,cS=>if x13<x10 then(if 0≤x13 then(if x13<(aV.length:Int)then((spec_ValJoin.f k cQ cR cS ((rd_T60 aV x13).f0.f0) ((rd_T60 aV x13).f0.f1) ((rd_T60 aV x13).f1)).bind fun cj=>(if x12=true then(if x13<(a9.length:Int)then(spec_l11Told.l1 k x1 x2 x9 x10 (rdOf false a9 x13) (wrap64 (x13+1)) bn aV a9 aW ba bc cj.1 cj.2.1 cj.2.2)else(none))else(spec_l11Told.l1 k x1 x2 x9 x10 false (wrap64 (x13+1)) bn aV a9 aW ba bc cj.1 cj.2.1 cj.2.2)))else(none))else(none))else(if ba.length<5864062014805 then(if bc.length<140737488355328 then((some (([]:List (S53)):List (S53))).bind fun bN=>(if 0≤x9 then(if x9<(x1.length:Int)then(if bN.length+((rd_T98 x1 x9).f2).length<8796093022208 then(if aW.length<5864062014805 then(spec_l11Told.l0 k x1 x2 x10 (wrap64 (x9+1)) bn aV a9 (aW++[(bN++((rd_T98 x1 x9).f2))]) (ba++[(⟨(⟨cQ,cR⟩:S58),cS⟩:S60)]) (bc++[x12]))else(none))else(none))else(none))else(none)))else(none))else(none))
end
def spec_l11Told.f(k:Nat)(bf:List (List (S53)))(aD:List (S60))(aX:List Bool)(l1:List (S98))(a2:Bool):Option ((List (List (S53)))×(List (S60))×List Bool):=spec_l11Told.l0 k l1 a2 0 0 bf aD aX ([]:List (List (S53))) ([]:List (S60)) ([]:List Bool)
theorem spec_l11Told.mono_l:∀ k,(∀ y0 y1 y2 y3 y4 y5 y6 y7 y8 y9,LeO (spec_l11Told.l0 k y0 y1 y2 y3 y4 y5 y6 y7 y8 y9) (spec_l11Told.l0 (k+1) y0 y1 y2 y3 y4 y5 y6 y7 y8 y9))∧(∀ y0 y1 y2 y3 y4 y5 y6 y7 y8 y9 eF,LeO (spec_l11Told.j1 k y0 y1 y2 y3 y4 y5 y6 y7 y8 y9 eF) (spec_l11Told.j1 (k+1) y0 y1 y2 y3 y4 y5 y6 y7 y8 y9 eF))∧(∀ y0 y1 y2 y3 y4 y5 y6 y7 y8 y9 eF iX iY iZ i5,LeO (spec_l11Told.l1 k y0 y1 y2 y3 y4 y5 y6 y7 y8 y9 eF iX iY iZ i5) (spec_l11Told.l1 (k+1) y0 y1 y2 y3 y4 y5 y6 y7 y8 y9 eF iX iY iZ i5))
 |0=>⟨fun _ _ _ _ _ _ _ _ _ _ r h=>by simp [spec_l11Told.l0]at h,fun _ _ _ _ _ _ _ _ _ _ _ r h=>by simp [spec_l11Told.j1]at h,fun _ _ _ _ _ _ _ _ _ _ _ _ _ _ _ r h=>by simp [spec_l11Told.l1]at h⟩
 |k+1=>by
  obtain⟨ih0,ih1,ih2⟩:=spec_l11Told.mono_l k;refine⟨?_,?_,?_⟩
  all_goals (intros;first|unfold spec_l11Told.l0|unfold spec_l11Told.j1|unfold spec_l11Told.l1)
  all_goals repeat' first
   |(with_reducible exact ih0 _ _ _ _ _ _ _ _ _ _)|(with_reducible exact ih1 _ _ _ _ _ _ _ _ _ _ _)|(with_reducible exact ih2 _ _ _ _ _ _ _ _ _ _ _ _ _ _ _)|(with_reducible exact spec_ValJoin.mono _ _ _ _ _ _ _)|(with_reducible exact LeO.refl _)|(with_reducible exact LeO.none _)|(with_reducible refine LeO.ite ?_ ?_)|(with_reducible refine LeO.bind ?_ fun _=>?_)|exact ih0 _ _ _ _ _ _ _ _ _ _|exact ih1 _ _ _ _ _ _ _ _ _ _ _|exact ih2 _ _ _ _ _ _ _ _ _ _ _ _ _ _ _|exact spec_ValJoin.mono _ _ _ _ _ _ _|exact LeO.none _|refine LeO.ite ?_ ?_|refine LeO.bind ?_ fun _=>?_
theorem spec_l11Told.mono:∀ a0 a1 a2 a3 a4 k,LeO (spec_l11Told.f k a0 a1 a2 a3 a4) (spec_l11Told.f (k+1) a0 a1 a2 a3 a4):=by
 intro a0 a1 a2 a3 a4 k;obtain⟨ih0,ih1,ih2⟩:=spec_l11Told.mono_l k;unfold spec_l11Told.f
 repeat' first
   |(with_reducible exact ih0 _ _ _ _ _ _ _ _ _ _)|(with_reducible exact ih1 _ _ _ _ _ _ _ _ _ _ _)|(with_reducible exact ih2 _ _ _ _ _ _ _ _ _ _ _ _ _ _ _)|(with_reducible exact spec_ValJoin.mono _ _ _ _ _ _ _)|(with_reducible exact LeO.refl _)|(with_reducible exact LeO.none _)|(with_reducible refine LeO.ite ?_ ?_)|(with_reducible refine LeO.bind ?_ fun _=>?_)|exact ih0 _ _ _ _ _ _ _ _ _ _|exact ih1 _ _ _ _ _ _ _ _ _ _ _|exact ih2 _ _ _ _ _ _ _ _ _ _ _ _ _ _ _|exact spec_ValJoin.mono _ _ _ _ _ _ _|exact LeO.none _|refine LeO.ite ?_ ?_|refine LeO.bind ?_ fun _=>?_
def spec_l11Told.T15:Bool×List (List Nat×List Nat):=(true,[([],[]),([],[]),([1],[1]),([],[]),([2,3],[2,3]),([4],[4]),([0,5],[0,5]),([6,6,0,1,2,3,4,5,6],[6])])
def spec_l11Told.B15:List Nat:=[0,0,2,0,14,30,63,127]
theorem spec_l11Told.tab15:rtab .any (opsOf Tryd.f44 15)=spec_l11Told.T15:=by kernel_rfl
theorem spec_l11Told.bits15:waitsOk spec_l11Told.T15.2 spec_l11Told.B15=true:=by kernel_rfl
def spec_l11Told.T20:Bool×List (List Nat×List Nat):=(true,[([],[]),([0],[0]),([],[]),([],[]),([],[]),([3,4],[3,4]),([5],[5]),([6],[6]),([2,7],[2,7]),([8],[8]),([1,9,8],[1,9]),([0,1,2,3,4,5,6,7,8,9,10],[]),([11,10,10,0,1,2,3,4,5,6,7,8,9,10],[10,11])])
def spec_l11Told.B20:List Nat:=[0,1,0,0,0,24,56,120,252,508,1023,2047,4095]
theorem spec_l11Told.tab20:rtab .any (opsOf Tryd.f44 20)=spec_l11Told.T20:=by kernel_rfl
theorem spec_l11Told.bits20:waitsOk spec_l11Told.T20.2 spec_l11Told.B20=true:=by kernel_rfl
theorem spec_l11Told.calls(k:Nat)(ca:Option Addr)(cd:Nat)(bf:List (List (S53)))(ck:Option Addr)(cf:Nat)(aD:List (S60))(cb:Option Addr)(cg:Nat)(aX:List Bool)(A1:Option Addr)(c1:Nat)(l1:List (S98))(a2:Bool)(r1:List (List (S53)))(r2:List (S60))(r3:List Bool)(w:World)(dS:Kd.C (Kd.slice 53 k53) w ca bf.length bf)(dP:bf.length≤cd)(dT:Kd.C k60 w ck aD.length aD)(dQ:aD.length≤cf)(dU:Kd.C Kd.bool w cb aX.length aX)(dR:aX.length≤cg)(hr1:Kd.C k98 w A1 l1.length l1)(hc1:l1.length≤c1)(h:spec_l11Told.f k bf aD aX l1 a2=some (r1,r2,r3)) :
  Calls Tryd.prog 44 #[.agg #[.slice ca bf.length cd,.slice ck aD.length cf,.slice cb aX.length cg],.slice A1 l1.length c1,.bool a2] w fun e w'=>∃ v0_ v1_ v2_:Value,e=.returned (.agg #[v0_,v1_,v2_])∧Kd.S (Kd.slice 53 k53) 50 w' w.heap.size (fun _=>True) v0_ r1∧Kd.R k60 60 w' w.heap.size (fun _=>True) v1_ r2∧Kd.R Kd.bool 4 w' w.heap.size (fun _=>True) v2_ r3∧Below w.heap.size w w':=by
 have hu32:=Tryd.underlying32;have hu60:=Tryd.underlying60;have ie:=am_ dS;have ia:=am_ dP;clear dS dP;have dK:=am_ dT;have ib:=am_ dQ;clear dT dQ;have eh:=am_ dU;have ic:=am_ dR;clear dU dR;have eK:=am_ hr1;have jm:=am_ hc1;clear hr1 hc1;have HB:=am_ (Below.refl w.heap.size w);have H:(spec_l11Told.l0 k l1 a2 0 0 bf aD aX ([]:List (List (S53))) ([]:List (S60)) ([]:List Bool))=some (r1,r2,r3):=h;clear h;have H':=am_ H;clear H
 go_enter Tryd.func44,Tryd.ntmps44
 go_wp2_with (first|((with_reducible refine gate_dst (N:=3) rfl ?_);refine box_y 3 #[.slice ca bf.length cd,.slice ck aD.length cf,.slice cb aX.length cg] 32 (h:=?_);intro bC hg w4 hbox hb;have ah:=am_ hbox;have hJ:=gz_ hg HB;have az:=gz_ hg HB;replace HB:=hb_ HB hb;clear hb hbox hg)|((with_reducible refine gate_dst (N:=6) rfl ?_);refine box_y 6 #[.slice none 0 0,.slice none 0 0,.slice none 0 0] 32 (h:=?_);intro bo hg w5 hbox hb;have aj:=am_ hbox;have hU:=gz1_ hg HB az;have aC:=gz1_ hg HB az;replace HB:=hb1_ HB hb az;have ch:=nb_ hg ah;replace ah:=bb_ ah hb;have cT:=ns_ ch;clear hb hbox hg)|((with_reducible refine gate_dst (N:=7) rfl ?_);refine box_y 7 #[.slice none 0 0,.slice none 0 0,.slice none 0 0] 32 (h:=?_);intro aA hg w6 hbox hb;have ac:=am_ hbox;have hZ:=gz2_ hg HB az aC;have aI:=gz2_ hg HB az aC;replace HB:=hb2_ HB hb az aC;have aK:=nb_ hg ah;replace ah:=bb_ ah hb;have br:=ns_ aK;have aM:=nb_ hg aj;replace aj:=bb_ aj hb;have bu:=ns_ aM;clear hb hbox hg;have i6:=br.out;have i8:=aK.out;have i7:=bu.out;have i9:=aM.out;obtain⟨cB,cC,cD,cF,cG,cH⟩:=cz3_ ac))
 go_loopg [8,9] k (fun kq v8 v9 w'=>∃ (dj:Int) (aq:Int) (ag:List (List (S53))) (ax:List (S60)) (aw:List Bool) (ay:Value) (a8:Value) (aU:Value),v8=.int .i64 dj∧v9=.int .i64 aq∧Aside0 (spec_l11Told.l0 kq l1 a2 dj aq bf aD aX ag ax aw=some (r1,r2,r3))∧Aside0 (kq≤k)∧Aside0 (Kd.S (Kd.slice 53 k53) 50 w' w.heap.size (fun _=>True) ay ag)∧Aside0 (Kd.R k60 60 w' w.heap.size (fun _=>True) a8 ax)∧Aside0 (Kd.R Kd.bool 4 w' w.heap.size (fun _=>True) aU aw)∧Aside0 (w'.heap[bC]?=some (.cells #[(.slice ca bf.length cd),(.slice ck aD.length cf),(.slice cb aX.length cg)] 32 (0,0)))∧Aside0 (w'.heap[bo]?=some (.cells #[(.slice none 0 0),(.slice none 0 0),(.slice none 0 0)] 32 (0,0)))∧Aside0 (w'.heap[aA]?=some (.cells #[ay,a8,aU] 32 (0,0)))∧Aside0 (Below w.heap.size w w'))
 case atStart=>exact⟨(0),(0),(([]:List (List (S53)))),(([]:List (S60))),(([]:List Bool)),(.slice none 0 0),(.slice none 0 0),(.slice none 0 0),sr_,sr_,H',⟨Nat.le_refl _⟩,⟨by first|exact Kd.S_nil _ _ _ _ _|exact Kd.N_nil _ _ _ _ _|exact Kd.V_nil _ _ _ _ _|exact Kd.Q_nil _ _ _ _ _|exact Kd.R_nil _ _ _ _ _⟩,nl_,nl_,bf_ ah aK,bf_ aj aM,⟨by(with_reducible repeat(first|refine blk_drewN ?_ _|refine blk_drew ?_|refine blk_alloc ?_ _));refine blk_put (cs:=#[.slice none 0 0,.slice none 0 0,.slice none 0 0]) ?_ 2 _ rfl;(with_reducible repeat(first|refine blk_drewN ?_ _|refine blk_drew ?_|refine blk_alloc ?_ _));refine blk_put (cs:=#[.slice none 0 0,.slice none 0 0,.slice none 0 0]) ?_ 1 _ rfl;(with_reducible repeat(first|refine blk_drewN ?_ _|refine blk_drew ?_|refine blk_alloc ?_ _));refine blk_put (cs:=#[.slice none 0 0,.slice none 0 0,.slice none 0 0]) ?_ 0 _ rfl;(with_reducible repeat(first|refine blk_drewN ?_ _|refine blk_drew ?_|refine blk_alloc ?_ _));exact ac.out⟩,⟨sq_below3 HB.out az.out aC.out aI.out⟩⟩
 case round =>
  clear H'
  obtain⟨dj,aq,ag,ax,aw,ay,a8,aU,rfl,rfl,HA,HK1,aa,af,ae,ah,aj,ac,HB⟩:=hrel;cases gk with
  |zero=>exact absurd HA.out (by simp [spec_l11Told.l0])
  |succ k1 =>
   have H:=HA.out;clear HA;simp only [spec_l11Told.l0]at H
   by_cases c10:aq<(l1.length:Int)
   ·
    rw [if_pos c10]at H;have dd:=decide_eq_true (p:=aq<(l1.length:Int)) c10;clear c10
    by_cases c11:0≤aq
    ·
     rw [if_pos c11]at H;have dN:=decide_eq_true (p:=0≤aq) c11;clear c11;have dX:=am_ H;clear H;have de:0≤(aq:Int):=sq_dec;have dg:aq<(l1.length:Int):=sq_dec;obtain⟨bw,gL,gN,gP,bT,bU,bV,hl214_2,hi214_2⟩:=at_T98 eK.out aq de dg;cases gP;replace bT:=cb_ HB bT;replace bU:=cb_ HB bU;replace bV:=cb_ HB bV;have eL:=am_ hi214_2;have eG:=am_ hl214_2;clear hi214_2 hl214_2;replace de:=eq_true de;replace dg:=eq_true dg
     go_upto_if 26 with(fail)
     go_cut [10] (fun v10 wc=>∃ (kq:Nat) (aQ:Int),v10=.int .i64 aQ∧Aside0 (spec_l11Told.j1 kq l1 a2 dj aq aQ bf aD aX ag ax aw=some (r1,r2,r3))∧Aside0 (kq≤k1)∧Aside0 (Kd.S (Kd.slice 53 k53) 50 wc w.heap.size (fun _=>True) ay ag)∧Aside0 (Kd.R k60 60 wc w.heap.size (fun _=>True) a8 ax)∧Aside0 (Kd.R Kd.bool 4 wc w.heap.size (fun _=>True) aU aw)∧Aside0 (wc.heap[bC]?=some (.cells #[(.slice ca bf.length cd),(.slice ck aD.length cf),(.slice cb aX.length cg)] 32 (0,0)))∧Aside0 (wc.heap[bo]?=some (.cells #[(.slice none 0 0),(.slice none 0 0),(.slice none 0 0)] 32 (0,0)))∧Aside0 (wc.heap[aA]?=some (.cells #[ay,a8,aU] 32 (0,0)))∧Aside0 (Below w.heap.size w wc))
     case first =>
      have H:=dX.out;clear dX
      by_cases c13:a2=true
      ·
       subst c13;have H1:=ifp_ H
       clear H;have H:=H1;clear H1;have H':=am_ H;clear H;have df:0≤(aq:Int):=sq_dec;have dh:aq<(l1.length:Int):=sq_dec;obtain⟨ev,gM,gO,gQ,bW,bX,bY,hl215_2,hi215_2⟩:=at_T98 eK.out aq df dh;obtain rfl:bw=ev:=(by injection gQ);replace bW:=cb_ HB bW;replace bX:=cb_ HB bX;replace bY:=cb_ HB bY;have eM:=am_ hi215_2;have eH:=am_ hl215_2;clear hi215_2 hl215_2;replace df:=eq_true df;replace dh:=eq_true dh
       go_wp2
       go_meet
       case rel=>exact⟨_,((rd_T98 l1 aq).f1),sr_,H',⟨by have:=HK1.out;first|omega|exact Nat.le_refl _⟩,⟨by(with_reducible repeat(first|apply Kd.S_alloc|apply Kd.S_drewN|apply Kd.S_drew));exact aa.out⟩,⟨by(with_reducible repeat(first|apply Kd.R_alloc|apply Kd.R_drewN|apply Kd.R_drew));exact af.out⟩,⟨by(with_reducible repeat(first|apply Kd.R_alloc|apply Kd.R_drewN|apply Kd.R_drew));exact ae.out⟩,bk_ ah,bk_ aj,bk_ ac,⟨sq_below3 HB.out az.out aC.out aI.out⟩⟩
      ·
       replace c13:=Bool.eq_false_iff.mpr c13;subst c13;have H1:=ifn_ H
       clear H;have H:=H1;clear H1;have H':=am_ H;clear H
       go_wp2
       go_meet
       case rel=>exact⟨_,((rd_T98 l1 aq).f0),sr_,H',⟨by have:=HK1.out;first|omega|exact Nat.le_refl _⟩,⟨by(with_reducible repeat(first|apply Kd.S_alloc|apply Kd.S_drewN|apply Kd.S_drew));exact aa.out⟩,⟨by(with_reducible repeat(first|apply Kd.R_alloc|apply Kd.R_drewN|apply Kd.R_drew));exact af.out⟩,⟨by(with_reducible repeat(first|apply Kd.R_alloc|apply Kd.R_drewN|apply Kd.R_drew));exact ae.out⟩,bk_ ah,bk_ aj,bk_ ac,⟨sq_below3 HB.out az.out aC.out aI.out⟩⟩
     case rest =>
      clear dX
      obtain⟨kq,aQ,rfl,HA,HJ11,aa,af,ae,ah,aj,ac,HB⟩:=hcut;cases kq with
      |zero=>exact absurd HA.out (by simp [spec_l11Told.j1])
      |succ cW =>
       have H:=HA.out;clear HA;simp only [spec_l11Told.j1]at H
       by_cases c14:aq > 0
       ·
        rw [if_pos c14]at H;have dO:=decide_eq_true (p:=0<aq) c14;clear c14;replace H:=Option.bind_eq_some_iff.mp H;obtain⟨⟨cK,cX,di⟩,A150,H⟩:=H;(try dsimp only at H);have A15:=am_ A150;clear A150;have H':=am_ H;clear H
        go_wp2_with (first|((with_reducible refine gate_callee (f:=66) rfl ?_);refine gl_ 34 Tryd.func66 #[] (h:=?_);(with_reducible refine(spec_l09None.calls cK cX di _ A15.out).mono ?_);rintro e jn ⟨rfl,hb⟩;refine⟨_,rfl,?_⟩;replace aa:=am_ (Kd.S_below (by(with_reducible repeat(first|apply Kd.S_alloc|apply Kd.S_drewN|apply Kd.S_drew));exact aa.out) hb);replace af:=rb_ af hb;replace ae:=rb_ ae hb;replace ah:=bb_ ah hb;replace aj:=bb_ aj hb;replace ac:=bb_ ac hb;replace HB:=hb3_ HB hb az aC aI;(try clear hb))|((with_reducible refine gate_dst (N:=11) rfl ?_);refine box_y 11 #[.int .i64 0,.int .i64 0,.bool false] 60 (h:=?_);intro ao hg jo hbox hb;replace aa:=am_ (Kd.S_below (by(with_reducible repeat(first|apply Kd.S_alloc|apply Kd.S_drewN|apply Kd.S_drew));exact aa.out) hb);replace af:=am_ (Kd.R_below (Kd.R_elderB (sq_row af.out) ao (Nat.le_of_eq hg.symm)) hb);replace ae:=rb_ ae hb;have ai:=am_ hbox;have da:=gz3_ hg HB az aC aI;have bg:=gz3_ hg HB az aC aI;replace HB:=hb3_ HB hb az aC aI;have aG:=nb_ hg ah;replace ah:=bb_ ah hb;have aT:=ns_ aG;have aJ:=nb_ hg aj;replace aj:=bb_ aj hb;have aY:=ns_ aJ;have aH:=nb_ hg ac;replace ac:=bb_ ac hb;have aN:=ns_ aH;clear hb hbox hg;have iz:=aT.out;have iL:=aG.out;have iA:=aY.out;have iM:=aJ.out;have iB:=aN.out;have iN:=aH.out;obtain⟨dB,dC,dD,dE,dF,dG⟩:=cz3_ ai))
        go_loopg [12,13] cW (fun kq v12 v13 w'=>∃ (bQ:Bool) (ar:Int) (au:Int) (ap:Int) (ak:Bool),v12=.bool bQ∧v13=.int .i64 ar∧Aside0 (spec_l11Told.l1 kq l1 a2 aq aQ bQ ar bf aD aX ag ax aw au ap ak=some (r1,r2,r3))∧Aside0 (kq≤cW)∧Aside0 (Kd.S (Kd.slice 53 k53) 50 w' w.heap.size (fun _=>True) ay ag)∧Aside0 (Kd.R k60 60 w' w.heap.size (fun k_=>k_≠ao) a8 ax)∧Aside0 (Kd.R Kd.bool 4 w' w.heap.size (fun _=>True) aU aw)∧Aside0 (w'.heap[bC]?=some (.cells #[(.slice ca bf.length cd),(.slice ck aD.length cf),(.slice cb aX.length cg)] 32 (0,0)))∧Aside0 (w'.heap[bo]?=some (.cells #[(.slice none 0 0),(.slice none 0 0),(.slice none 0 0)] 32 (0,0)))∧Aside0 (w'.heap[aA]?=some (.cells #[ay,a8,aU] 32 (0,0)))∧Aside0 (w'.heap[ao]?=some (.cells #[.int .i64 au,.int .i64 ap,.bool ak] 60 (0,0)))∧Aside0 (Below w.heap.size w w'))
        case atStart=>exact⟨(true),(dj),(cK),(cX),(di),sr_,sr_,H',⟨Nat.le_refl _⟩,⟨by(with_reducible repeat(first|apply Kd.S_alloc|apply Kd.S_drewN|apply Kd.S_drew));exact Kd.S_mono (Kd.S_far (p:=⟨ao,2,none⟩) (Kd.S_far (p:=⟨ao,1,none⟩) (Kd.S_far (p:=⟨ao,0,none⟩) (Kd.S_types aa.out ai.out (by decide)) (fun _ hk=>hk.2) (.int .i64 cK)) (fun _ hk=>hk.2) (.int .i64 cX)) (fun _ hk=>hk.2) (.bool di)) (fun _ hk=>trivial)⟩,⟨by(with_reducible repeat(first|apply Kd.R_alloc|apply Kd.R_drewN|apply Kd.R_drew));exact Kd.R_mono (Kd.R_far (p:=⟨ao,2,none⟩) (Kd.R_far (p:=⟨ao,1,none⟩) (Kd.R_far (p:=⟨ao,0,none⟩) (Kd.R_mono af.out (fun k_ hk=>(⟨hk,hk.2⟩:_∧k_≠ao))) (fun _ hk=>hk.2) (.int .i64 cK)) (fun _ hk=>hk.2) (.int .i64 cX)) (fun _ hk=>hk.2) (.bool di)) (fun _ hk=>hk.1.2)⟩,⟨by(with_reducible repeat(first|apply Kd.R_alloc|apply Kd.R_drewN|apply Kd.R_drew));exact Kd.R_mono (Kd.R_far (p:=⟨ao,2,none⟩) (Kd.R_far (p:=⟨ao,1,none⟩) (Kd.R_far (p:=⟨ao,0,none⟩) (Kd.R_types ae.out ai.out (by decide)) (fun _ hk=>hk.2) (.int .i64 cK)) (fun _ hk=>hk.2) (.int .i64 cX)) (fun _ hk=>hk.2) (.bool di)) (fun _ hk=>trivial)⟩,bf_ ah aG,bf_ aj aJ,bf_ ac aH,⟨by(with_reducible repeat(first|refine blk_drewN ?_ _|refine blk_drew ?_|refine blk_alloc ?_ _));refine blk_put (cs:=#[.int .i64 cK,.int .i64 cX,.bool false]) ?_ 2 _ rfl;(with_reducible repeat(first|refine blk_drewN ?_ _|refine blk_drew ?_|refine blk_alloc ?_ _));refine blk_put (cs:=#[.int .i64 cK,.int .i64 0,.bool false]) ?_ 1 _ rfl;(with_reducible repeat(first|refine blk_drewN ?_ _|refine blk_drew ?_|refine blk_alloc ?_ _));refine blk_put (cs:=#[.int .i64 0,.int .i64 0,.bool false]) ?_ 0 _ rfl;(with_reducible repeat(first|refine blk_drewN ?_ _|refine blk_drew ?_|refine blk_alloc ?_ _));exact ai.out⟩,⟨sq_below4 HB.out az.out aC.out aI.out bg.out⟩⟩
        case round =>
         clear H'
         obtain⟨bQ,ar,au,ap,ak,rfl,rfl,HA,HK3,aa,af,ae,ah,aj,ac,ai,HB⟩:=hrel;cases gk with
         |zero=>exact absurd HA.out (by simp [spec_l11Told.l1])
         |succ k3 =>
          have H:=HA.out;clear HA;simp only [spec_l11Told.l1]at H
          by_cases c22:ar<aQ
          ·
           rw [if_pos c22]at H;have ey:=decide_eq_true (p:=ar<aQ) c22;clear c22
           by_cases c23:0≤ar
           ·
            rw [if_pos c23]at H;have ig:=decide_eq_true (p:=0≤ar) c23;clear c23
            by_cases c24:ar<(aD.length:Int)
            ·
             rw [if_pos c24]at H;have ii:=decide_eq_true (p:=ar<(aD.length:Int)) c24;clear c24;replace H:=Option.bind_eq_some_iff.mp H;obtain⟨⟨bJ,bO,b9⟩,A250,H⟩:=H;(try dsimp only at H);have A25:=am_ A250;clear A250
             by_cases c26:bQ=true
             ·
              subst c26;have H1:=ifp_ H
              clear H;have H:=H1;clear H1
              by_cases c27:ar<(aX.length:Int)
              ·
               rw [if_pos c27]at H;have ij:=decide_eq_true (p:=ar<(aX.length:Int)) c27;clear c27;have H':=am_ H;clear H
               try go_wp2
               replace aa:=am_ (Kd.S_drew aa.out);replace af:=rd_ af;replace ae:=rd_ ae;replace ah:=bd_ ah;replace aj:=bd_ aj;replace ac:=bd_ ac;replace ai:=bd_ ai;replace HB:=hd_ HB;have cI:0≤(ar:Int):=sq_dec;have cJ:ar<(aD.length:Int):=sq_dec;obtain⟨bx,d5,bi,bj,bk⟩:=at_T60 dK.out ar cI cJ;have bM:=bk;have bL:=bj;have bK:=bi;cases d5;replace bi:=cb_ HB bi;replace bj:=cb_ HB bj;replace bk:=cb_ HB bk;replace cI:=eq_true cI;replace cJ:=eq_true cJ;refine start_ (n:=8) (S:=fun w'=>w'.cell? ⟨ao,0,none⟩=some (.int .i64 au)∧w'.cell? ⟨ao,1,none⟩=some (.int .i64 ap)∧w'.cell? ⟨ao,2,none⟩=some (.bool ak)∧w'.cell? ⟨bC,0,none⟩=some (.slice ca bf.length cd)∧w'.cell? ⟨bC,1,none⟩=some (.slice (some bx) aD.length cf)∧w'.cell? ⟨bC,2,none⟩=some (.slice cb aX.length cg)∧w'.cell? (bx.add ((ar).toNat*3))=some (.int .i64 ((rd_T60 aD ar).f0.f0))∧w'.cell? ⟨(bx.add ((ar).toNat*3)).block,(bx.add ((ar).toNat*3)).off+1,none⟩=some (.int .i64 ((rd_T60 aD ar).f0.f1))∧w'.cell? ⟨(bx.add ((ar).toNat*3)).block,(bx.add ((ar).toNat*3)).off+2,none⟩=some (.bool ((rd_T60 aD ar).f1))) (ds:=[7]) #[false,false,false,false,false,false,false,false] (by kernel_rfl) rfl rfl ⟨cl_ ai 0,cl_ ai 1,cl_ ai 2,cl_ ah 0,cl_ ah 1,cl_ ah 2,(cb_ HB bK),(cb_ HB bL),(cb_ HB bM)⟩ (fun hHeld=>?_);refine with_tabW spec_l11Told.tab15 spec_l11Told.bits15 (fun HT_ HW_=>?_);generalize wr.drew=jp at aa af ae ah aj ac ai HB bi bj bk hHeld ⊢;refine py_ HT_ 1 42 ?_
               refine py_ HT_ 3 44 ?_
               refine ty_ HT_ HW_ 0 41 rfl hHeld (by rintro w' ⟨s0,s1,s2,s3,s4,s5,s6,s7,s8⟩;go_simp;with_reducible rfl) ?_
               refine ty_ HT_ HW_ 2 43 rfl hHeld (by rintro w' ⟨s0,s1,s2,s3,s4,s5,s6,s7,s8⟩;go_simp;with_reducible rfl) ?_
               refine py_ HT_ 4 45 ?_
               refine ty_ HT_ HW_ 5 46 rfl hHeld (by rintro w' ⟨s0,s1,s2,s3,s4,s5,s6,s7,s8⟩;go_simp;with_reducible rfl) ?_
               refine oy_ HT_ 6 (some 47) (fun K hK=>?_);refine gs_ Tryd.func67 #[.agg #[.int .i64 au,.int .i64 ap,.bool ak],.agg #[.int .i64 ((rd_T60 aD ar).f0.f0),.int .i64 ((rd_T60 aD ar).f0.f1),.bool ((rd_T60 aD ar).f1)]] (h:=?_);with_reducible refine(spec_ValJoin.calls k3 au ap ak ((rd_T60 aD ar).f0.f0) ((rd_T60 aD ar).f0.f1) ((rd_T60 aD ar).f1) bJ bO b9 _ A25.out).mono ?_
               rintro e gZ ⟨rfl,hb⟩;refine⟨_,rfl,?_⟩;replace aa:=am_ (Kd.S_below (by(with_reducible repeat(first|apply Kd.S_alloc|apply Kd.S_drewN|apply Kd.S_drew));exact aa.out) hb);replace af:=rb_ af hb;replace ae:=rb_ ae hb;replace ah:=bb_ ah hb;replace aj:=bb_ aj hb;replace ac:=bb_ ac hb;replace ai:=bb_ ai hb;replace HB:=hb4_ HB hb az aC aI bg
               (try clear hb)
               (try clear hb2)
               (try clear hk)
               (try clear hi)
               refine hK.out _ _ ⟨cl_ ai 0,cl_ ai 1,cl_ ai 2,cl_ ah 0,cl_ ah 1,cl_ ah 2,(cb_ HB bK),(cb_ HB bL),(cb_ HB bM)⟩ (fun hHeld=>?_);clear hK K;refine norm_y 47 (h:=?_)
               refine ly_ HT_ 7 none (fun K hK=>?_);have ja:gZ.cell? ⟨ao,0,none⟩=some (.int .i64 au):=(blk_cell ai.out 0).trans rfl;have ip:=blk_frozen ai.out 0;have f9:=aG.out;have gc:=aJ.out;have ge:=aH.out;have fE:=aT.out;have fF:=aY.out;have fG:=aN.out;have jb:gZ.cell? ⟨ao,1,none⟩=some (.int .i64 ap):=(blk_cell ai.out 1).trans rfl;have iq:=blk_frozen ai.out 1;have gf:=aG.out;have gh:=aJ.out;have gi:=aH.out;have fH:=aT.out;have fI:=aY.out;have fJ:=aN.out;have jc:gZ.cell? ⟨ao,2,none⟩=some (.bool ak):=(blk_cell ai.out 2).trans rfl;have ir:=blk_frozen ai.out 2;have gj:=aG.out;have gl:=aJ.out;have gm:=aH.out;have fK:=aT.out;have fL:=aY.out;have fM:=aN.out;refine skip_ (w1:=?_) (by rfl) rfl ?_ ?_;rotate_left
               ·
                go_simp;rfl
               refine hK.out _ _ ?_;clear hK K;refine done_ (done_of HT_.out (by kernel_rfl)) ?_;have iC:=ch.out;have iO:=cT.out;have iD:=aK.out;have iP:=br.out;have iE:=aG.out;have iQ:=aT.out;obtain⟨eN,eO,eP,fg,fh,fi⟩:=cz3_ ah;have d6:0≤(ar:Int):=sq_dec;have d9:ar<(aX.length:Int):=sq_dec;obtain⟨db,gR,aZ⟩:=Kd.at_bool eh.out ar d6 d9;cases gR;have hn224_0:db.block≠ao:=Nat.ne_of_lt (Nat.lt_of_lt_of_le (by have:=World.block_lt_of_cell? _ _ aZ;first|rwa [add_block]at this|exact this) da.out);have hn224_1:db.block≠ao:=Nat.ne_of_lt (Nat.lt_of_lt_of_le (by have:=World.block_lt_of_cell? _ _ aZ;first|rwa [add_block]at this|exact this) da.out);have hn224_2:db.block≠ao:=Nat.ne_of_lt (Nat.lt_of_lt_of_le (by have:=World.block_lt_of_cell? _ _ aZ;first|rwa [add_block]at this|exact this) da.out);replace aZ:=cb_ HB aZ;replace aZ:=(cell_far (p:=⟨ao,0,none⟩) (by first|(rw [add_block];exact hn224_0)|(show(Addr.add _ _).block≠_;rw [add_block];exact hn224_0)|exact hn224_0) (.int .i64 bJ)).trans aZ;replace aZ:=(cell_far (p:=⟨ao,1,none⟩) (by first|(rw [add_block];exact hn224_1)|(show(Addr.add _ _).block≠_;rw [add_block];exact hn224_1)|exact hn224_1) (.int .i64 bO)).trans aZ;replace aZ:=(cell_far (p:=⟨ao,2,none⟩) (by first|(rw [add_block];exact hn224_2)|(show(Addr.add _ _).block≠_;rw [add_block];exact hn224_2)|exact hn224_2) (.bool b9)).trans aZ;clear hn224_0 hn224_1 hn224_2;replace d6:=eq_true d6;replace d9:=eq_true d9
               try go_wp2
               go_roundg k3
               case measure=>have:=HK1.out;have:=HJ11.out;have:=HK3.out;omega
               case rel=>exact⟨(rdOf false aX ar),(wrap64 (ar+1)),(bJ),(bO),(b9),sr_,sr_,H',⟨by have:=HK1.out;have:=HJ11.out;have:=HK3.out;omega⟩,⟨by(with_reducible repeat(first|apply Kd.S_alloc|apply Kd.S_drewN|apply Kd.S_drew));exact Kd.S_mono (Kd.S_far (p:=⟨ao,2,none⟩) (Kd.S_far (p:=⟨ao,1,none⟩) (Kd.S_far (p:=⟨ao,0,none⟩) (Kd.S_types aa.out ai.out (by decide)) (fun _ hk=>hk.2) (.int .i64 bJ)) (fun _ hk=>hk.2) (.int .i64 bO)) (fun _ hk=>hk.2) (.bool b9)) (fun _ hk=>trivial)⟩,⟨by(with_reducible repeat(first|apply Kd.R_alloc|apply Kd.R_drewN|apply Kd.R_drew));exact Kd.R_mono (Kd.R_far (p:=⟨ao,2,none⟩) (Kd.R_far (p:=⟨ao,1,none⟩) (Kd.R_far (p:=⟨ao,0,none⟩) (Kd.R_mono af.out (fun k_ hk=>(⟨hk,hk⟩:_∧k_≠ao))) (fun _ hk=>hk.2) (.int .i64 bJ)) (fun _ hk=>hk.2) (.int .i64 bO)) (fun _ hk=>hk.2) (.bool b9)) (fun _ hk=>hk.1)⟩,⟨by(with_reducible repeat(first|apply Kd.R_alloc|apply Kd.R_drewN|apply Kd.R_drew));exact Kd.R_mono (Kd.R_far (p:=⟨ao,2,none⟩) (Kd.R_far (p:=⟨ao,1,none⟩) (Kd.R_far (p:=⟨ao,0,none⟩) (Kd.R_types ae.out ai.out (by decide)) (fun _ hk=>hk.2) (.int .i64 bJ)) (fun _ hk=>hk.2) (.int .i64 bO)) (fun _ hk=>hk.2) (.bool b9)) (fun _ hk=>trivial)⟩,bf_ ah aG,bf_ aj aJ,bf_ ac aH,⟨by(with_reducible repeat(first|refine blk_drewN ?_ _|refine blk_drew ?_|refine blk_alloc ?_ _));refine blk_put (cs:=#[.int .i64 bJ,.int .i64 bO,.bool ak]) ?_ 2 _ rfl;(with_reducible repeat(first|refine blk_drewN ?_ _|refine blk_drew ?_|refine blk_alloc ?_ _));refine blk_put (cs:=#[.int .i64 bJ,.int .i64 ap,.bool ak]) ?_ 1 _ rfl;(with_reducible repeat(first|refine blk_drewN ?_ _|refine blk_drew ?_|refine blk_alloc ?_ _));refine blk_put (cs:=#[.int .i64 au,.int .i64 ap,.bool ak]) ?_ 0 _ rfl;(with_reducible repeat(first|refine blk_drewN ?_ _|refine blk_drew ?_|refine blk_alloc ?_ _));exact ai.out⟩,⟨sq_below4 HB.out az.out aC.out aI.out bg.out⟩⟩
              ·
               rw [if_neg c27]at H;exact absurd H (by simp)
             ·
              replace c26:=Bool.eq_false_iff.mpr c26;subst c26;have H1:=ifn_ H
              clear H;have H:=H1;clear H1;have H':=am_ H;clear H
              try go_wp2
              replace aa:=am_ (Kd.S_drew aa.out);replace af:=rd_ af;replace ae:=rd_ ae;replace ah:=bd_ ah;replace aj:=bd_ aj;replace ac:=bd_ ac;replace ai:=bd_ ai;replace HB:=hd_ HB;have cI:0≤(ar:Int):=sq_dec;have cJ:ar<(aD.length:Int):=sq_dec;obtain⟨bx,d5,bi,bj,bk⟩:=at_T60 dK.out ar cI cJ;have bM:=bk;have bL:=bj;have bK:=bi;cases d5;replace bi:=cb_ HB bi;replace bj:=cb_ HB bj;replace bk:=cb_ HB bk;replace cI:=eq_true cI;replace cJ:=eq_true cJ;refine start_ (n:=8) (S:=fun w'=>w'.cell? ⟨ao,0,none⟩=some (.int .i64 au)∧w'.cell? ⟨ao,1,none⟩=some (.int .i64 ap)∧w'.cell? ⟨ao,2,none⟩=some (.bool ak)∧w'.cell? ⟨bC,0,none⟩=some (.slice ca bf.length cd)∧w'.cell? ⟨bC,1,none⟩=some (.slice (some bx) aD.length cf)∧w'.cell? ⟨bC,2,none⟩=some (.slice cb aX.length cg)∧w'.cell? (bx.add ((ar).toNat*3))=some (.int .i64 ((rd_T60 aD ar).f0.f0))∧w'.cell? ⟨(bx.add ((ar).toNat*3)).block,(bx.add ((ar).toNat*3)).off+1,none⟩=some (.int .i64 ((rd_T60 aD ar).f0.f1))∧w'.cell? ⟨(bx.add ((ar).toNat*3)).block,(bx.add ((ar).toNat*3)).off+2,none⟩=some (.bool ((rd_T60 aD ar).f1))) (ds:=[7]) #[false,false,false,false,false,false,false,false] (by kernel_rfl) rfl rfl ⟨cl_ ai 0,cl_ ai 1,cl_ ai 2,cl_ ah 0,cl_ ah 1,cl_ ah 2,(cb_ HB bK),(cb_ HB bL),(cb_ HB bM)⟩ (fun hHeld=>?_);refine with_tabW spec_l11Told.tab15 spec_l11Told.bits15 (fun HT_ HW_=>?_);generalize wr.drew=jq at aa af ae ah aj ac ai HB bi bj bk hHeld ⊢;refine py_ HT_ 1 42 ?_
              refine py_ HT_ 3 44 ?_
              refine ty_ HT_ HW_ 0 41 rfl hHeld (by rintro w' ⟨s0,s1,s2,s3,s4,s5,s6,s7,s8⟩;go_simp;with_reducible rfl) ?_
              refine ty_ HT_ HW_ 2 43 rfl hHeld (by rintro w' ⟨s0,s1,s2,s3,s4,s5,s6,s7,s8⟩;go_simp;with_reducible rfl) ?_
              refine py_ HT_ 4 45 ?_
              refine ty_ HT_ HW_ 5 46 rfl hHeld (by rintro w' ⟨s0,s1,s2,s3,s4,s5,s6,s7,s8⟩;go_simp;with_reducible rfl) ?_
              refine oy_ HT_ 6 (some 47) (fun K hK=>?_);refine gs_ Tryd.func67 #[.agg #[.int .i64 au,.int .i64 ap,.bool ak],.agg #[.int .i64 ((rd_T60 aD ar).f0.f0),.int .i64 ((rd_T60 aD ar).f0.f1),.bool ((rd_T60 aD ar).f1)]] (h:=?_);with_reducible refine(spec_ValJoin.calls k3 au ap ak ((rd_T60 aD ar).f0.f0) ((rd_T60 aD ar).f0.f1) ((rd_T60 aD ar).f1) bJ bO b9 _ A25.out).mono ?_
              rintro e hD ⟨rfl,hb⟩;refine⟨_,rfl,?_⟩;replace aa:=am_ (Kd.S_below (by(with_reducible repeat(first|apply Kd.S_alloc|apply Kd.S_drewN|apply Kd.S_drew));exact aa.out) hb);replace af:=rb_ af hb;replace ae:=rb_ ae hb;replace ah:=bb_ ah hb;replace aj:=bb_ aj hb;replace ac:=bb_ ac hb;replace ai:=bb_ ai hb;replace HB:=hb4_ HB hb az aC aI bg
              (try clear hb)
              (try clear hb2)
              (try clear hk)
              (try clear hi)
              refine hK.out _ _ ⟨cl_ ai 0,cl_ ai 1,cl_ ai 2,cl_ ah 0,cl_ ah 1,cl_ ah 2,(cb_ HB bK),(cb_ HB bL),(cb_ HB bM)⟩ (fun hHeld=>?_);clear hK K;refine norm_y 47 (h:=?_)
              refine ly_ HT_ 7 none (fun K hK=>?_);have jd:hD.cell? ⟨ao,0,none⟩=some (.int .i64 au):=(blk_cell ai.out 0).trans rfl;have iu:=blk_frozen ai.out 0;have gn:=aG.out;have gp:=aJ.out;have gr:=aH.out;have fN:=aT.out;have fO:=aY.out;have fP:=aN.out;have je:hD.cell? ⟨ao,1,none⟩=some (.int .i64 ap):=(blk_cell ai.out 1).trans rfl;have iv:=blk_frozen ai.out 1;have gu:=aG.out;have gv:=aJ.out;have gw:=aH.out;have fQ:=aT.out;have fR:=aY.out;have fS:=aN.out;have jf:hD.cell? ⟨ao,2,none⟩=some (.bool ak):=(blk_cell ai.out 2).trans rfl;have iw:=blk_frozen ai.out 2;have gy:=aG.out;have gz:=aJ.out;have gE:=aH.out;have fT:=aT.out;have fU:=aY.out;have fV:=aN.out;refine skip_ (w1:=?_) (by rfl) rfl ?_ ?_;rotate_left
              ·
               go_simp;rfl
              refine hK.out _ _ ?_;clear hK K;refine done_ (done_of HT_.out (by kernel_rfl)) ?_
              try go_wp2
              go_roundg k3
              case measure=>have:=HK1.out;have:=HJ11.out;have:=HK3.out;omega
              case rel=>exact⟨(false),(wrap64 (ar+1)),(bJ),(bO),(b9),sr_,sr_,H',⟨by have:=HK1.out;have:=HJ11.out;have:=HK3.out;omega⟩,⟨by(with_reducible repeat(first|apply Kd.S_alloc|apply Kd.S_drewN|apply Kd.S_drew));exact Kd.S_mono (Kd.S_far (p:=⟨ao,2,none⟩) (Kd.S_far (p:=⟨ao,1,none⟩) (Kd.S_far (p:=⟨ao,0,none⟩) (Kd.S_types aa.out ai.out (by decide)) (fun _ hk=>hk.2) (.int .i64 bJ)) (fun _ hk=>hk.2) (.int .i64 bO)) (fun _ hk=>hk.2) (.bool b9)) (fun _ hk=>trivial)⟩,⟨by(with_reducible repeat(first|apply Kd.R_alloc|apply Kd.R_drewN|apply Kd.R_drew));exact Kd.R_mono (Kd.R_far (p:=⟨ao,2,none⟩) (Kd.R_far (p:=⟨ao,1,none⟩) (Kd.R_far (p:=⟨ao,0,none⟩) (Kd.R_mono af.out (fun k_ hk=>(⟨hk,hk⟩:_∧k_≠ao))) (fun _ hk=>hk.2) (.int .i64 bJ)) (fun _ hk=>hk.2) (.int .i64 bO)) (fun _ hk=>hk.2) (.bool b9)) (fun _ hk=>hk.1)⟩,⟨by(with_reducible repeat(first|apply Kd.R_alloc|apply Kd.R_drewN|apply Kd.R_drew));exact Kd.R_mono (Kd.R_far (p:=⟨ao,2,none⟩) (Kd.R_far (p:=⟨ao,1,none⟩) (Kd.R_far (p:=⟨ao,0,none⟩) (Kd.R_types ae.out ai.out (by decide)) (fun _ hk=>hk.2) (.int .i64 bJ)) (fun _ hk=>hk.2) (.int .i64 bO)) (fun _ hk=>hk.2) (.bool b9)) (fun _ hk=>trivial)⟩,bf_ ah aG,bf_ aj aJ,bf_ ac aH,⟨by(with_reducible repeat(first|refine blk_drewN ?_ _|refine blk_drew ?_|refine blk_alloc ?_ _));refine blk_put (cs:=#[.int .i64 bJ,.int .i64 bO,.bool ak]) ?_ 2 _ rfl;(with_reducible repeat(first|refine blk_drewN ?_ _|refine blk_drew ?_|refine blk_alloc ?_ _));refine blk_put (cs:=#[.int .i64 bJ,.int .i64 ap,.bool ak]) ?_ 1 _ rfl;(with_reducible repeat(first|refine blk_drewN ?_ _|refine blk_drew ?_|refine blk_alloc ?_ _));refine blk_put (cs:=#[.int .i64 au,.int .i64 ap,.bool ak]) ?_ 0 _ rfl;(with_reducible repeat(first|refine blk_drewN ?_ _|refine blk_drew ?_|refine blk_alloc ?_ _));exact ai.out⟩,⟨sq_below4 HB.out az.out aC.out aI.out bg.out⟩⟩
            ·
             rw [if_neg c24]at H;exact absurd H (by simp)
           ·
            rw [if_neg c23]at H;exact absurd H (by simp)
          ·
           rw [if_neg c22]at H;have ey:=decide_eq_false (p:=ar<aQ) c22;clear c22
           by_cases c42:ax.length<5864062014805
           ·
            rw [if_pos c42]at H;have ej:=am_ c42;clear c42;obtain⟨bz,cl⟩:∃ y_:List (S60),y_=(ax++[(⟨(⟨au,ap⟩:S58),ak⟩:S60)]):=⟨_,rfl⟩;replace H:(if aw.length<140737488355328 then((some (([]:List (S53)):List (S53))).bind fun bN=>(if 0≤aq then(if aq<(l1.length:Int)then(if bN.length+((rd_T98 l1 aq).f2).length<8796093022208 then(if ag.length<5864062014805 then(spec_l11Told.l0 k3 l1 a2 aQ (wrap64 (aq+1)) bf aD aX (ag++[(bN++((rd_T98 l1 aq).f2))]) bz (aw++[bQ]))else(none))else(none))else(none))else(none)))else(none))=some (r1,r2,r3):=by first|(rw [cl];with_reducible exact H)|(have H2_:=(Option.bind_some _ _).symm.trans H;rw [cl];with_reducible exact H2_)|(have H2_:=(Option.bind_some _ _).symm.trans H;with_reducible exact H2_)|with_reducible exact H|(rw [cl];exact H)|exact H
            have ep:=am_ cl;clear cl
            by_cases c43:aw.length<140737488355328
            ·
             rw [if_pos c43]at H;have ek:=am_ c43;clear c43;obtain⟨bp,cn⟩:∃ y_:List Bool,y_=(aw++[bQ]):=⟨_,rfl⟩;replace H:((some (([]:List (S53)):List (S53))).bind fun bN=>(if 0≤aq then(if aq<(l1.length:Int)then(if bN.length+((rd_T98 l1 aq).f2).length<8796093022208 then(if ag.length<5864062014805 then(spec_l11Told.l0 k3 l1 a2 aQ (wrap64 (aq+1)) bf aD aX (ag++[(bN++((rd_T98 l1 aq).f2))]) bz bp)else(none))else(none))else(none))else(none)))=some (r1,r2,r3):=by first|(rw [cn];with_reducible exact H)|(have H2_:=(Option.bind_some _ _).symm.trans H;rw [cn];with_reducible exact H2_)|(have H2_:=(Option.bind_some _ _).symm.trans H;with_reducible exact H2_)|with_reducible exact H|(rw [cn];exact H)|exact H
             have eq:=am_ cn;clear cn;obtain⟨bN,cp⟩:∃ y_:List (S53),y_=(([]:List (S53))):=⟨_,rfl⟩;replace H:(if 0≤aq then(if aq<(l1.length:Int)then(if bN.length+((rd_T98 l1 aq).f2).length<8796093022208 then(if ag.length<5864062014805 then(spec_l11Told.l0 k3 l1 a2 aQ (wrap64 (aq+1)) bf aD aX (ag++[(bN++((rd_T98 l1 aq).f2))]) bz bp)else(none))else(none))else(none))else(none))=some (r1,r2,r3):=by first|(rw [cp];with_reducible exact H)|(have H2_:=(Option.bind_some _ _).symm.trans H;rw [cp];with_reducible exact H2_)|(have H2_:=(Option.bind_some _ _).symm.trans H;with_reducible exact H2_)|with_reducible exact H|(rw [cp];exact H)|exact H
             have dL:=am_ cp;clear cp
             by_cases c44:0≤aq
             ·
              rw [if_pos c44]at H;have ik:=decide_eq_true (p:=0≤aq) c44;clear c44
              by_cases c45:aq<(l1.length:Int)
              ·
               rw [if_pos c45]at H;have il:=decide_eq_true (p:=aq<(l1.length:Int)) c45;clear c45
               by_cases c46:bN.length+((rd_T98 l1 aq).f2).length<8796093022208
               ·
                rw [if_pos c46]at H;have el:=am_ c46;clear c46;obtain⟨dk,cq⟩:∃ y_:List (S53),y_=(bN++((rd_T98 l1 aq).f2)):=⟨_,rfl⟩;replace H:(if ag.length<5864062014805 then(spec_l11Told.l0 k3 l1 a2 aQ (wrap64 (aq+1)) bf aD aX (ag++[dk]) bz bp)else(none))=some (r1,r2,r3):=by first|(rw [cq];with_reducible exact H)|(have H2_:=(Option.bind_some _ _).symm.trans H;rw [cq];with_reducible exact H2_)|(have H2_:=(Option.bind_some _ _).symm.trans H;with_reducible exact H2_)|with_reducible exact H|(rw [cq];exact H)|exact H
                have er:=am_ cq;clear cq
                by_cases c47:ag.length<5864062014805
                ·
                 rw [if_pos c47]at H;have em:=am_ c47;clear c47;obtain⟨cY,cr⟩:∃ y_:List (List (S53)),y_=(ag++[dk]):=⟨_,rfl⟩;replace H:(spec_l11Told.l0 k3 l1 a2 aQ (wrap64 (aq+1)) bf aD aX cY bz bp)=some (r1,r2,r3):=by first|(rw [cr];with_reducible exact H)|(have H2_:=(Option.bind_some _ _).symm.trans H;rw [cr];with_reducible exact H2_)|(have H2_:=(Option.bind_some _ _).symm.trans H;with_reducible exact H2_)|with_reducible exact H|(rw [cr];exact H)|exact H
                 have es:=am_ cr;clear cr;have H':=am_ H;clear H;have iF:=br.out;have iR:=aK.out;have iG:=bu.out;have iS:=aM.out;have iH:=aH.out;have iT:=aN.out;obtain⟨eQ,eR,eS,fj,fk,fl⟩:=cz3_ ac;have iI:=aT.out;have iU:=aG.out;have iJ:=aY.out;have iV:=aJ.out;obtain⟨eT,eU,eV,fm,fo,fp⟩:=cz3_ ai
                 try go_wp2_with (first|((with_reducible refine gate_builtin (b:=.append) (xs:=#[.tmp 57,.tmp 59]) rfl ?_);at_builtin;refine Kd.R_append k60 (w0:=w) w.heap.size rfl (.tmp 57) (.tmp 59) 30 60 (.agg #[(.int .i64 0),(.int .i64 0),(.bool false)]) 24 rfl Tryd.underlying30 info60 rfl (by decide) (by omega) a8 ax (⟨(⟨au,ap⟩:S58),ak⟩:S60) [.int .i64 au,.int .i64 ap,.bool ak] (fun k_=>k_≠ao) (fun _=>False) rfl rfl ?aP (fun _ hk=>hk.elim) ?aF ?aO ?aB ?aS ?aL ?_;(case aP=>exact k60_mkM _ _ _ (⟨(⟨au,ap⟩:S58),ak⟩:S60));(case aB=>exact(sq_below4 HB.out az.out aC.out aI.out bg.out));(case aF=>exact(fun k_ hk=>Kd.freshB (g:=ao) (o:=.cells #[.int .i64 au,.int .i64 ap,.bool ak] 60 (0,0)) (sq_blk ai.out) k_ hk));(case aO=>exact(sq_row af.out));(case aS=>exact(below_size (sq_below4 HB.out az.out aC.out aI.out bg.out)));(case aL=>have:=ej.out;omega);intro v226 jr ho hb hg hat;rw [← ep.out]at ho;replace aa:=am_ (Kd.S_over' (by(with_reducible repeat(first|apply Kd.S_alloc|apply Kd.S_drewN|apply Kd.S_drew));exact aa.out) (Kd.R_typed (sq_row af.out)) (by decide) hg);replace ae:=ro_ ae af hg;replace ah:=bg_ ah af hg;replace aj:=bg_ aj af hg;replace ac:=bg_ ac af hg;replace ai:=am_ (blk_grown (g:=ao) (o:=.cells #[.int .i64 au,.int .i64 ap,.bool ak] 60 (0,0)) (sq_blk ai.out) hg (Kd.R_away af.out (fun _ hk=>hk)));replace HB:=am_ hb;have bh:=am_ ho;clear af;clear ho hb hg hat;obtain⟨bR,bS,gU⟩:=Kd.R_slice bh.out;subst gU;obtain⟨eW,eX,eY,fq,ft,fu⟩:=cz3_ ac)|((with_reducible refine gate_builtin (b:=.append) (xs:=#[.tmp 63,.tmp 65]) rfl ?_);at_builtin;refine Kd.R_append Kd.bool (w0:=w) w.heap.size rfl (.tmp 63) (.tmp 65) 24 4 (.bool false) 1 rfl Tryd.underlying24 info4 rfl (by decide) (by omega) aU aw bQ [.bool bQ] (fun _=>True) (fun _=>False) rfl (by first|(go_simp;done)|(go_simp;rfl)) ?aP (fun _ hk=>hk.elim) ?aF ?aO ?aB ?aS ?aL ?_;(case aP=>exact rfl);(case aB=>exact(sq_below4 HB.out az.out aC.out aI.out bg.out));(case aF=>exact(fun _ _=>trivial));(case aO=>exact(by(with_reducible repeat(first|apply Kd.R_alloc|apply Kd.R_drewN|apply Kd.R_drew));exact Kd.R_mono (Kd.R_far (p:=⟨aA,1,none⟩) (Kd.R_types ae.out ac.out (by decide)) (fun _ hk=>hk.2) (.slice bR bz.length bS)) (fun _ hk=>trivial)));(case aS=>exact(below_size (sq_below4 HB.out az.out aC.out aI.out bg.out)));(case aL=>have:=ek.out;omega);intro v229 dH ho hb hg hat;rw [← eq.out]at ho;replace aa:=am_ (Kd.S_over' (by(with_reducible repeat(first|apply Kd.S_alloc|apply Kd.S_drewN|apply Kd.S_drew));exact(Kd.S_mono (Kd.S_far (p:=⟨aA,1,none⟩) (Kd.S_types aa.out ac.out (by decide)) (fun _ hk=>hk.2) (.slice bR bz.length bS)) (fun _ h_=>h_.1))) (Kd.R_typed (by(with_reducible repeat(first|apply Kd.R_alloc|apply Kd.R_drewN|apply Kd.R_drew));exact(Kd.R_mono (Kd.R_far (p:=⟨aA,1,none⟩) (Kd.R_types ae.out ac.out (by decide)) (fun _ hk=>hk.2) (.slice bR bz.length bS)) (fun _ h_=>h_.1)))) (by decide) hg);replace ah:=am_ (blk_grown (g:=bC) (o:=.cells #[.slice ca bf.length cd,.slice ck aD.length cf,.slice cb aX.length cg] 32 (0,0)) (bf_ ah aK).out hg (Kd.R_ne ae.out ah.out (by decide)));replace aj:=am_ (blk_grown (g:=bo) (o:=.cells #[.slice none 0 0,.slice none 0 0,.slice none 0 0] 32 (0,0)) (bf_ aj aM).out hg (Kd.R_ne ae.out aj.out (by decide)));replace ai:=am_ (blk_grown (g:=ao) (o:=.cells #[.int .i64 au,.int .i64 ap,.bool ak] 60 (0,0)) (bf_ ai aN).out hg (Kd.R_ne ae.out ai.out (by decide)));replace bh:=am_ (Kd.R_over' (by(with_reducible repeat(first|apply Kd.R_alloc|apply Kd.R_drewN|apply Kd.R_drew));exact(Kd.R_mono (Kd.R_far (p:=⟨aA,1,none⟩) (Kd.R_types bh.out ac.out (by decide)) (fun _ hk=>hk.2) (.slice bR bz.length bS)) (fun _ h_=>h_.1))) (Kd.R_typed (by(with_reducible repeat(first|apply Kd.R_alloc|apply Kd.R_drewN|apply Kd.R_drew));exact(Kd.R_mono (Kd.R_far (p:=⟨aA,1,none⟩) (Kd.R_types ae.out ac.out (by decide)) (fun _ hk=>hk.2) (.slice bR bz.length bS)) (fun _ h_=>h_.1)))) (by decide) hg);replace ac:=am_ (blk_grown (g:=aA) (o:=.cells #[ay,.slice bR bz.length bS,aU] 32 (0,0)) (bp_ ac) hg (Kd.R_ne ae.out ac.out (by decide)));replace HB:=am_ hb;have bq:=am_ ho;clear ae;clear ho hb hg hat;obtain⟨bA,bB,gV⟩:=Kd.R_slice bq.out;subst gV;obtain⟨eZ,e7,e8,fv,fw,fx⟩:=cz3_ ac))
                 have n0_:Aside0 (Kd.S (Kd.slice 53 k53) 50 (dH.setCell ⟨aA,2,none⟩ (.slice bA bp.length bB)) w.heap.size (fun _=>True) ay ag):=⟨by(with_reducible repeat(first|apply Kd.S_alloc|apply Kd.S_drewN|apply Kd.S_drew));exact Kd.S_mono (Kd.S_far (p:=⟨aA,2,none⟩) (Kd.S_types aa.out ac.out (by decide)) (fun _ hk=>hk.2) (.slice bA bp.length bB)) (fun _ hk=>trivial)⟩;have n1_:Aside0 (Kd.R k60 60 (dH.setCell ⟨aA,2,none⟩ (.slice bA bp.length bB)) w.heap.size (fun k_=>k_≠ao) (.slice bR bz.length bS) bz):=⟨by(with_reducible repeat(first|apply Kd.R_alloc|apply Kd.R_drewN|apply Kd.R_drew));exact Kd.R_mono (Kd.R_far (p:=⟨aA,2,none⟩) (Kd.R_types bh.out ac.out (by decide)) (fun _ hk=>hk.2) (.slice bA bp.length bB)) (fun _ hk=>hk.1)⟩;have n2_:Aside0 (Kd.R Kd.bool 4 (dH.setCell ⟨aA,2,none⟩ (.slice bA bp.length bB)) w.heap.size (fun _=>True) (.slice bA bp.length bB) bp):=⟨by(with_reducible repeat(first|apply Kd.R_alloc|apply Kd.R_drewN|apply Kd.R_drew));exact Kd.R_mono (Kd.R_far (p:=⟨aA,2,none⟩) (Kd.R_types bq.out ac.out (by decide)) (fun _ hk=>hk.2) (.slice bA bp.length bB)) (fun _ hk=>trivial)⟩;have n3_:Aside0 ((dH.setCell ⟨aA,2,none⟩ (.slice bA bp.length bB)).heap[bC]?=some (.cells #[.slice ca bf.length cd,.slice ck aD.length cf,.slice cb aX.length cg] 32 (0,0))):=bf_ ah aK;have n4_:Aside0 ((dH.setCell ⟨aA,2,none⟩ (.slice bA bp.length bB)).heap[bo]?=some (.cells #[.slice none 0 0,.slice none 0 0,.slice none 0 0] 32 (0,0))):=bf_ aj aM;have n5_:Aside0 ((dH.setCell ⟨aA,2,none⟩ (.slice bA bp.length bB)).heap[aA]?=some (.cells #[ay,.slice bR bz.length bS,.slice bA bp.length bB] 32 (0,0))):=⟨by(with_reducible repeat(first|refine blk_drewN ?_ _|refine blk_drew ?_|refine blk_alloc ?_ _));refine blk_put (cs:=#[ay,.slice bR bz.length bS,aU]) ?_ 2 _ rfl;(with_reducible repeat(first|refine blk_drewN ?_ _|refine blk_drew ?_|refine blk_alloc ?_ _));exact ac.out⟩;have n6_:Aside0 ((dH.setCell ⟨aA,2,none⟩ (.slice bA bp.length bB)).heap[ao]?=some (.cells #[.int .i64 au,.int .i64 ap,.bool ak] 60 (0,0))):=bf_ ai aN;have n7_:Aside0 (Below w.heap.size w (dH.setCell ⟨aA,2,none⟩ (.slice bA bp.length bB))):=⟨sq_below4 HB.out az.out aC.out aI.out bg.out⟩
                 (try clear aa)
                 (try clear bh)
                 (try clear bq)
                 (try clear ah)
                 (try clear aj)
                 (try clear ac)
                 (try clear ai)
                 (try clear HB)
                 generalize (dH.setCell ⟨aA,2,none⟩ (.slice bA bp.length bB))=jj at n0_ n1_ n2_ n3_ n4_ n5_ n6_ n7_ ⊢;have aa:=n0_;have bh:=n1_;have bq:=n2_;have ah:=n3_;have aj:=n4_;have ac:=n5_;have ai:=n6_;have HB:=n7_;clear n0_ n1_ n2_ n3_ n4_ n5_ n6_ n7_;replace aa:=am_ (Kd.S_drew aa.out);replace bh:=rd_ bh;replace bq:=rd_ bq;replace ah:=bd_ ah;replace aj:=bd_ aj;replace ac:=bd_ ac;replace ai:=bd_ ai;replace HB:=hd_ HB;have d7:0≤(aq:Int):=sq_dec;have ec:aq<(l1.length:Int):=sq_dec;obtain⟨ew,dV,dY,gS,bZ,b3,b4,hl234_2,hi234_2⟩:=at_T98 eK.out aq d7 ec;have bF:=b4;have bE:=b3;have bD:=bZ;obtain rfl:bw=ew:=(by injection gS);replace bZ:=cb_ HB bZ;replace b3:=cb_ HB b3;replace b4:=cb_ HB b4;have cO:=am_ hi234_2;have eI:=am_ hl234_2;clear hi234_2 hl234_2;replace d7:=eq_true d7;replace ec:=eq_true ec;refine start_ (n:=13) (S:=fun w'=>w'.cell? ⟨aA,0,none⟩=some (ay)∧w'.cell? ⟨aA,1,none⟩=some (.slice bR bz.length bS)∧w'.cell? ⟨aA,2,none⟩=some (.slice bA bp.length bB)∧w'.cell? (bw.add ((aq).toNat*3))=some (.int .i64 ((rd_T98 l1 aq).f0))∧w'.cell? ⟨(bw.add ((aq).toNat*3)).block,(bw.add ((aq).toNat*3)).off+1,none⟩=some (.int .i64 ((rd_T98 l1 aq).f1))∧w'.cell? ⟨(bw.add ((aq).toNat*3)).block,(bw.add ((aq).toNat*3)).off+2,none⟩=some (.slice dV ((rd_T98 l1 aq).f2).length dY)) (ds:=[12]) #[false,false,false,false,false,false,false,false,false,false,false,false,false] (by kernel_rfl) rfl rfl ⟨cl_ ac 0,cl_ ac 1,cl_ ac 2,(cb_ HB bD),(cb_ HB bE),(cb_ HB bF)⟩ (fun hHeld=>?_);refine with_tabW spec_l11Told.tab20 spec_l11Told.bits20 (fun HT_ HW_=>?_);generalize jj.drew=js at aa bh bq ah aj ac ai HB cO bZ b3 b4 hHeld ⊢;refine py_ HT_ 0 69 ?_
                 refine py_ HT_ 3 72 ?_
                 refine py_ HT_ 4 73 ?_
                 refine py_ HT_ 5 74 ?_
                 refine py_ HT_ 6 75 ?_
                 refine ty_ HT_ HW_ 1 70 rfl hHeld (by rintro w' ⟨s0,s1,s2,s3,s4,s5⟩;go_simp;with_reducible rfl) ?_
                 refine ty_ HT_ HW_ 7 76 rfl hHeld (by rintro w' ⟨s0,s1,s2,s3,s4,s5⟩;go_simp;with_reducible rfl) ?_
                 refine oy_ HT_ 2 (some 71) (fun K hK=>?_);refine Kd.R_lit_step k53 _ 53 ?hg (N:=71) ?hd (xs:=([]:List (S53))) (inner:=[]) (ok:=fun _=>True) (okp:=fun _=>True) ?hr ?hp (fun _ hk=>hk) trivial (Below.refl _ _) (Nat.le_refl _) (by simp) ?_;(case hd=>rfl);(case hg=>rfl);(case hr=>first|(go_simp;done)|(go_simp;rfl));(case hp=>exact(Reps.none _ _));intro v232 jt cU hb hg_ hnew_;clear hg_ hnew_
                 (first|rw [← dL.out]at cU|(simp only [Int.reduceToNat]at cU;rw [← dL.out]at cU))
                 replace aa:=am_ (Kd.S_elder' (by(with_reducible repeat(first|apply Kd.S_alloc|apply Kd.S_drewN|apply Kd.S_drew));exact aa.out) (Kd.R_base cU) hb);replace bh:=rb_ bh hb;replace bq:=rb_ bq hb;have bP:=am_ (Kd.R_lower cU (below_size (sq_below4 HB.out az.out aC.out aI.out bg.out)));replace ah:=bb_ ah hb;replace aj:=bb_ aj hb;replace ac:=bb_ ac hb;replace ai:=bb_ ai hb;replace HB:=hb4_ HB hb az aC aI bg;clear hb cU;refine hK.out _ _ ⟨cl_ ac 0,cl_ ac 1,cl_ ac 2,(cb_ HB bD),(cb_ HB bE),(cb_ HB bF)⟩ (fun hHeld=>?_);clear hK K;refine norm_y 71 (h:=?_)
                 refine oy_ HT_ 8 (some 77) (fun K hK=>?_);refine Kd.R_append_rows_step k53 (w0:=w) w.heap.size (by rfl) (.tmp 71) (.tmp 76) 50 53 (.agg #[(.int .i64 0),(.int .i64 0)]) 16 rfl Tryd.underlying50 info53 rfl (by decide) (by omega) v232 bN ((rd_T98 l1 aq).f2) _ _ _ (fun _=>True) (fun _=>False) rfl rfl ?aO ?aR (fun _ _ h=>h) (fun _ h=>h.elim) ?aF ?aB ?aS ?aL ?_
                 (case aR=>exact sq_c (Kd.C_below cO.out HB.out))
                 (case aB=>exact(sq_below4 HB.out az.out aC.out aI.out bg.out))
                 (case aF=>exact(fun _ _=>trivial))
                 (case aO=>exact(sq_row bP.out))
                 (case aS=>exact(below_size (sq_below4 HB.out az.out aC.out aI.out bg.out)))
                 (case aL=>have:=el.out;omega)
                 intro v236 ju ho hb hg hat;rw [← er.out]at ho;replace aa:=am_ (Kd.S_after (ok:=(fun _=>True)) (by(with_reducible repeat(first|apply Kd.S_alloc|apply Kd.S_drewN|apply Kd.S_drew));exact aa.out) hg hat);replace ah:=bg_ ah bP hg;replace aj:=bg_ aj bP hg;replace ac:=bg_ ac bP hg;replace ai:=bg_ ai bP hg;replace bh:=ro_ bh bP hg;replace bq:=ro_ bq bP hg;replace HB:=am_ hb;have cM:=am_ ho;clear bP;clear ho hb hg hat;obtain⟨ee,ez,eB⟩:=Kd.R_slice cM.out
                 (first|subst eB|(injection eB with f1_ f2_ f3_;have f4_:=f1_.symm;have f5_:=f3_.symm;clear f1_ f2_ f3_;subst f4_;subst f5_))
                 refine hK.out _ _ ⟨cl_ ac 0,cl_ ac 1,cl_ ac 2,(cb_ HB bD),(cb_ HB bE),(cb_ HB bF)⟩ (fun hHeld=>?_);clear hK K;refine norm_y 77 (h:=?_)
                 refine oy_ HT_ 9 (some 78) (fun K hK=>?_);refine value_ (w1:=?_) (v:=?_) (by rfl) rfl ?_ ?_;rotate_left 2
                 ·
                  go_simp
                  constructor
                  ·
                   rfl
                  ·
                   rfl
                 refine hK.out _ _ ⟨(blk_cell (blk_alloc ac.out _) 0).trans rfl,(blk_cell (blk_alloc ac.out _) 1).trans rfl,(blk_cell (blk_alloc ac.out _) 2).trans rfl,(World.cell?_alloc_lt _ _ _ (World.block_lt_of_cell? _ _ (cb_ HB bD))).trans (cb_ HB bD),(World.cell?_alloc_lt _ _ _ (World.block_lt_of_cell? _ _ (cb_ HB bE))).trans (cb_ HB bE),(World.cell?_alloc_lt _ _ _ (World.block_lt_of_cell? _ _ (cb_ HB bF))).trans (cb_ HB bF)⟩ (fun hHeld=>?_);clear hK K;refine norm_y 78 (h:=?_)
                 refine oy_ HT_ 10 (some 79) (fun K hK=>?_);refine Kd.S_append_step (Kd.slice 53 k53) (w0:=w) w.heap.size (by rfl) (.tmp 70) (.tmp 78) 29 50 (.slice none 0 0) 24 rfl Tryd.underlying29 info50 rfl (by decide) (by omega) ay ag dk [.slice ee dk.length ez] (fun _=>True) (fun k_=>some k_=(.slice ee dk.length ez:Value).ownBlock) rfl rfl ?aP (fun k_ hk_=>((Kd.R_mono (ok':=fun k_=>((fun _=>True)) k_∧some k_≠(ay:Value).ownBlock) (Kd.R_apart' (cM.out) (Kd.S_typed aa.out) (by decide)) (fun k_ hk=>⟨trivial,hk.2⟩))).1 k_ hk_.symm) ?aF ?aO ?aB ?aS ?aL ?_
                 (case aP=>exact Kd.M_row (Kd.R_mono (Kd.R_tight rfl (Kd.R_mono (ok':=fun k_=>((fun _=>True)) k_∧some k_≠(ay:Value).ownBlock) (Kd.R_apart' (cM.out) (Kd.S_typed aa.out) (by decide)) (fun k_ hk=>⟨trivial,hk.2⟩))) (fun _ h_=>h_)))
                 (case aB=>exact(sq_below4 HB.out az.out aC.out aI.out bg.out))
                 (case aF=>exact(fun _ _=>trivial))
                 (case aO=>exact(by(with_reducible repeat(first|apply Kd.S_alloc|apply Kd.S_drewN|apply Kd.S_drew));exact Kd.S_mono aa.out (fun k_ hk=>⟨trivial,fun e_=>hk.2 e_⟩)))
                 (case aS=>exact(below_size (sq_below4 HB.out az.out aC.out aI.out bg.out)))
                 (case aL=>have:=em.out;omega)
                 intro v239 jk ho hb hg hat;rw [← es.out]at ho;replace ah:=bgS_ ah aa hg;replace aj:=bgS_ aj aa hg;replace ac:=bgS_ ac aa hg;replace ai:=bgS_ ai aa hg;replace bh:=am_ (Kd.R_over' (sq_row bh.out) (Kd.S_typed (by(with_reducible repeat(first|apply Kd.S_alloc|apply Kd.S_drewN|apply Kd.S_drew));exact aa.out)) (by decide) hg);replace bq:=am_ (Kd.R_over' (sq_row bq.out) (Kd.S_typed (by(with_reducible repeat(first|apply Kd.S_alloc|apply Kd.S_drewN|apply Kd.S_drew));exact aa.out)) (by decide) hg);replace HB:=am_ hb;have dI:=am_ ho;clear aa cM;clear ho hb hg hat;obtain⟨dn,dw,eC⟩:=Kd.S_slice dI.out
                 (first|subst eC|(injection eC with f1_ f2_ f3_;have f4_:=f1_.symm;have f5_:=f3_.symm;clear f1_ f2_ f3_;subst f4_;subst f5_))
                 refine hK.out _ _ ⟨cl_ ac 0,cl_ ac 1,cl_ ac 2,(cb_ HB bD),(cb_ HB bE),(cb_ HB bF)⟩ (fun hHeld=>?_);clear hK K;refine norm_y 79 (h:=?_)
                 refine py_ HT_ 11 80 ?_
                 refine ly_ HT_ 12 none (fun K hK=>?_);have jg:jk.cell? ⟨aA,0,none⟩=some (ay):=(blk_cell ac.out 0).trans rfl;have ix:=blk_frozen ac.out 0;have gG:=aK.out;have gH:=aM.out;have gI:=aN.out;have fW:=br.out;have fX:=bu.out;have fY:=aH.out;refine skip_ (w1:=?_) (by rfl) rfl ?_ ?_;rotate_left
                 ·
                  go_simp;rfl
                 refine hK.out _ _ ?_;clear hK K;refine done_ (done_of HT_.out (by kernel_rfl)) ?_
                 try go_wp2
                 go_roundg k3
                 case measure=>have:=HK1.out;have:=HJ11.out;have:=HK3.out;omega
                 case rel=>exact⟨(aQ),(wrap64 (aq+1)),(cY),(bz),(bp),(.slice dn cY.length dw),(.slice bR bz.length bS),(.slice bA bp.length bB),sr_,sr_,H',⟨by have:=HK1.out;have:=HJ11.out;have:=HK3.out;omega⟩,⟨by(with_reducible repeat(first|apply Kd.S_alloc|apply Kd.S_drewN|apply Kd.S_drew));exact Kd.S_mono (Kd.S_far (p:=⟨aA,0,none⟩) (Kd.S_types dI.out ac.out (by decide)) (fun _ hk=>hk.2) (.slice dn cY.length dw)) (fun _ hk=>trivial)⟩,⟨by(with_reducible repeat(first|apply Kd.R_alloc|apply Kd.R_drewN|apply Kd.R_drew));exact Kd.R_mono (Kd.R_far (p:=⟨aA,0,none⟩) (Kd.R_types bh.out ac.out (by decide)) (fun _ hk=>hk.2) (.slice dn cY.length dw)) (fun _ hk=>trivial)⟩,⟨by(with_reducible repeat(first|apply Kd.R_alloc|apply Kd.R_drewN|apply Kd.R_drew));exact Kd.R_mono (Kd.R_far (p:=⟨aA,0,none⟩) (Kd.R_types bq.out ac.out (by decide)) (fun _ hk=>hk.2) (.slice dn cY.length dw)) (fun _ hk=>trivial)⟩,bf_ ah aK,bf_ aj aM,⟨by(with_reducible repeat(first|refine blk_drewN ?_ _|refine blk_drew ?_|refine blk_alloc ?_ _));refine blk_put (cs:=#[ay,.slice bR bz.length bS,.slice bA bp.length bB]) ?_ 0 _ rfl;(with_reducible repeat(first|refine blk_drewN ?_ _|refine blk_drew ?_|refine blk_alloc ?_ _));exact ac.out⟩,⟨sq_below4 HB.out az.out aC.out aI.out bg.out⟩⟩
                ·
                 rw [if_neg c47]at H;exact absurd H (by simp)
               ·
                rw [if_neg c46]at H;exact absurd H (by simp)
              ·
               rw [if_neg c45]at H;exact absurd H (by simp)
             ·
              rw [if_neg c44]at H;exact absurd H (by simp)
            ·
             rw [if_neg c43]at H;exact absurd H (by simp)
           ·
            rw [if_neg c42]at H;exact absurd H (by simp)
       ·
        rw [if_neg c14]at H;have dO:=decide_eq_false (p:=0<aq) c14;clear c14;obtain⟨cA,cx⟩:∃ y_:List (S53),y_=(([]:List (S53))):=⟨_,rfl⟩;replace H:(if 0≤aq then(if aq<(l1.length:Int)then(if cA.length+((rd_T98 l1 aq).f2).length<8796093022208 then(if ag.length<5864062014805 then(spec_l11Told.l0 cW l1 a2 aQ (wrap64 (aq+1)) bf aD aX (ag++[(cA++((rd_T98 l1 aq).f2))]) ax aw)else(none))else(none))else(none))else(none))=some (r1,r2,r3):=by first|(rw [cx];with_reducible exact H)|(have H2_:=(Option.bind_some _ _).symm.trans H;rw [cx];with_reducible exact H2_)|(have H2_:=(Option.bind_some _ _).symm.trans H;with_reducible exact H2_)|with_reducible exact H|(rw [cx];exact H)|exact H
        have dM:=am_ cx;clear cx
        by_cases c70:0≤aq
        ·
         rw [if_pos c70]at H;have im:=decide_eq_true (p:=0≤aq) c70;clear c70
         by_cases c71:aq<(l1.length:Int)
         ·
          rw [if_pos c71]at H;have io:=decide_eq_true (p:=aq<(l1.length:Int)) c71;clear c71
          by_cases c72:cA.length+((rd_T98 l1 aq).f2).length<8796093022208
          ·
           rw [if_pos c72]at H;have en:=am_ c72;clear c72;obtain⟨dl,cy⟩:∃ y_:List (S53),y_=(cA++((rd_T98 l1 aq).f2)):=⟨_,rfl⟩;replace H:(if ag.length<5864062014805 then(spec_l11Told.l0 cW l1 a2 aQ (wrap64 (aq+1)) bf aD aX (ag++[dl]) ax aw)else(none))=some (r1,r2,r3):=by first|(rw [cy];with_reducible exact H)|(have H2_:=(Option.bind_some _ _).symm.trans H;rw [cy];with_reducible exact H2_)|(have H2_:=(Option.bind_some _ _).symm.trans H;with_reducible exact H2_)|with_reducible exact H|(rw [cy];exact H)|exact H
           have et:=am_ cy;clear cy
           by_cases c73:ag.length<5864062014805
           ·
            rw [if_pos c73]at H;have eo:=am_ c73;clear c73;obtain⟨cZ,cz⟩:∃ y_:List (List (S53)),y_=(ag++[dl]):=⟨_,rfl⟩;replace H:(spec_l11Told.l0 cW l1 a2 aQ (wrap64 (aq+1)) bf aD aX cZ ax aw)=some (r1,r2,r3):=by first|(rw [cz];with_reducible exact H)|(have H2_:=(Option.bind_some _ _).symm.trans H;rw [cz];with_reducible exact H2_)|(have H2_:=(Option.bind_some _ _).symm.trans H;with_reducible exact H2_)|with_reducible exact H|(rw [cz];exact H)|exact H
            have eu:=am_ cz;clear cz;have H':=am_ H;clear H
            try go_wp2
            replace aa:=am_ (Kd.S_drew aa.out);replace af:=rd_ af;replace ae:=rd_ ae;replace ah:=bd_ ah;replace aj:=bd_ aj;replace ac:=bd_ ac;replace HB:=hd_ HB;have d8:0≤(aq:Int):=sq_dec;have ed:aq<(l1.length:Int):=sq_dec;obtain⟨ex,dW,dZ,gT,b5,b6,b7,hl244_2,hi244_2⟩:=at_T98 eK.out aq d8 ed;have bI:=b7;have bH:=b6;have bG:=b5;obtain rfl:bw=ex:=(by injection gT);replace b5:=cb_ HB b5;replace b6:=cb_ HB b6;replace b7:=cb_ HB b7;have cP:=am_ hi244_2;have eJ:=am_ hl244_2;clear hi244_2 hl244_2;replace d8:=eq_true d8;replace ed:=eq_true ed;refine start_ (n:=13) (S:=fun w'=>w'.cell? ⟨aA,0,none⟩=some (ay)∧w'.cell? ⟨aA,1,none⟩=some (a8)∧w'.cell? ⟨aA,2,none⟩=some (aU)∧w'.cell? (bw.add ((aq).toNat*3))=some (.int .i64 ((rd_T98 l1 aq).f0))∧w'.cell? ⟨(bw.add ((aq).toNat*3)).block,(bw.add ((aq).toNat*3)).off+1,none⟩=some (.int .i64 ((rd_T98 l1 aq).f1))∧w'.cell? ⟨(bw.add ((aq).toNat*3)).block,(bw.add ((aq).toNat*3)).off+2,none⟩=some (.slice dW ((rd_T98 l1 aq).f2).length dZ)) (ds:=[12]) #[false,false,false,false,false,false,false,false,false,false,false,false,false] (by kernel_rfl) rfl rfl ⟨cl_ ac 0,cl_ ac 1,cl_ ac 2,(cb_ HB bG),(cb_ HB bH),(cb_ HB bI)⟩ (fun hHeld=>?_);refine with_tabW spec_l11Told.tab20 spec_l11Told.bits20 (fun HT_ HW_=>?_);generalize wc.drew=jv at aa af ae ah aj ac HB cP b5 b6 b7 hHeld ⊢;refine py_ HT_ 0 69 ?_
            refine py_ HT_ 3 72 ?_
            refine py_ HT_ 4 73 ?_
            refine py_ HT_ 5 74 ?_
            refine py_ HT_ 6 75 ?_
            refine ty_ HT_ HW_ 1 70 rfl hHeld (by rintro w' ⟨s0,s1,s2,s3,s4,s5⟩;go_simp;with_reducible rfl) ?_
            refine ty_ HT_ HW_ 7 76 rfl hHeld (by rintro w' ⟨s0,s1,s2,s3,s4,s5⟩;go_simp;with_reducible rfl) ?_
            refine oy_ HT_ 2 (some 71) (fun K hK=>?_);refine Kd.R_lit_step k53 _ 53 ?hg (N:=71) ?hd (xs:=([]:List (S53))) (inner:=[]) (ok:=fun _=>True) (okp:=fun _=>True) ?hr ?hp (fun _ hk=>hk) trivial (Below.refl _ _) (Nat.le_refl _) (by simp) ?_;(case hd=>rfl);(case hg=>rfl);(case hr=>first|(go_simp;done)|(go_simp;rfl));(case hp=>exact(Reps.none _ _));intro v242 jw cV hb hg_ hnew_;clear hg_ hnew_
            (first|rw [← dM.out]at cV|(simp only [Int.reduceToNat]at cV;rw [← dM.out]at cV))
            replace aa:=am_ (Kd.S_elder' (by(with_reducible repeat(first|apply Kd.S_alloc|apply Kd.S_drewN|apply Kd.S_drew));exact aa.out) (Kd.R_base cV) hb);replace af:=rb_ af hb;replace ae:=rb_ ae hb;have b8:=am_ (Kd.R_lower cV (below_size (sq_below3 HB.out az.out aC.out aI.out)));replace ah:=bb_ ah hb;replace aj:=bb_ aj hb;replace ac:=bb_ ac hb;replace HB:=hb3_ HB hb az aC aI;clear hb cV;refine hK.out _ _ ⟨cl_ ac 0,cl_ ac 1,cl_ ac 2,(cb_ HB bG),(cb_ HB bH),(cb_ HB bI)⟩ (fun hHeld=>?_);clear hK K;refine norm_y 71 (h:=?_)
            refine oy_ HT_ 8 (some 77) (fun K hK=>?_);refine Kd.R_append_rows_step k53 (w0:=w) w.heap.size (by rfl) (.tmp 71) (.tmp 76) 50 53 (.agg #[(.int .i64 0),(.int .i64 0)]) 16 rfl Tryd.underlying50 info53 rfl (by decide) (by omega) v242 cA ((rd_T98 l1 aq).f2) _ _ _ (fun _=>True) (fun _=>False) rfl rfl ?aO ?aR (fun _ _ h=>h) (fun _ h=>h.elim) ?aF ?aB ?aS ?aL ?_
            (case aR=>exact sq_c (Kd.C_below cP.out HB.out))
            (case aB=>exact(sq_below3 HB.out az.out aC.out aI.out))
            (case aF=>exact(fun _ _=>trivial))
            (case aO=>exact(sq_row b8.out))
            (case aS=>exact(below_size (sq_below3 HB.out az.out aC.out aI.out)))
            (case aL=>have:=en.out;omega)
            intro v246 jx ho hb hg hat;rw [← et.out]at ho;replace aa:=am_ (Kd.S_after (ok:=(fun _=>True)) (by(with_reducible repeat(first|apply Kd.S_alloc|apply Kd.S_drewN|apply Kd.S_drew));exact aa.out) hg hat);replace af:=ro_ af b8 hg;replace ae:=ro_ ae b8 hg;replace ah:=bg_ ah b8 hg;replace aj:=bg_ aj b8 hg;replace ac:=bg_ ac b8 hg;replace HB:=am_ hb;have cN:=am_ ho;clear b8;clear ho hb hg hat;obtain⟨ef,eA,eD⟩:=Kd.R_slice cN.out
            (first|subst eD|(injection eD with f1_ f2_ f3_;have f4_:=f1_.symm;have f5_:=f3_.symm;clear f1_ f2_ f3_;subst f4_;subst f5_))
            refine hK.out _ _ ⟨cl_ ac 0,cl_ ac 1,cl_ ac 2,(cb_ HB bG),(cb_ HB bH),(cb_ HB bI)⟩ (fun hHeld=>?_);clear hK K;refine norm_y 77 (h:=?_)
            refine oy_ HT_ 9 (some 78) (fun K hK=>?_);refine value_ (w1:=?_) (v:=?_) (by rfl) rfl ?_ ?_;rotate_left 2
            ·
             go_simp
             constructor
             ·
              rfl
             ·
              rfl
            refine hK.out _ _ ⟨(blk_cell (blk_alloc ac.out _) 0).trans rfl,(blk_cell (blk_alloc ac.out _) 1).trans rfl,(blk_cell (blk_alloc ac.out _) 2).trans rfl,(World.cell?_alloc_lt _ _ _ (World.block_lt_of_cell? _ _ (cb_ HB bG))).trans (cb_ HB bG),(World.cell?_alloc_lt _ _ _ (World.block_lt_of_cell? _ _ (cb_ HB bH))).trans (cb_ HB bH),(World.cell?_alloc_lt _ _ _ (World.block_lt_of_cell? _ _ (cb_ HB bI))).trans (cb_ HB bI)⟩ (fun hHeld=>?_);clear hK K;refine norm_y 78 (h:=?_)
            refine oy_ HT_ 10 (some 79) (fun K hK=>?_);refine Kd.S_append_step (Kd.slice 53 k53) (w0:=w) w.heap.size (by rfl) (.tmp 70) (.tmp 78) 29 50 (.slice none 0 0) 24 rfl Tryd.underlying29 info50 rfl (by decide) (by omega) ay ag dl [.slice ef dl.length eA] (fun _=>True) (fun k_=>some k_=(.slice ef dl.length eA:Value).ownBlock) rfl rfl ?aP (fun k_ hk_=>((Kd.R_mono (ok':=fun k_=>((fun _=>True)) k_∧some k_≠(ay:Value).ownBlock) (Kd.R_apart' (cN.out) (Kd.S_typed aa.out) (by decide)) (fun k_ hk=>⟨trivial,hk.2⟩))).1 k_ hk_.symm) ?aF ?aO ?aB ?aS ?aL ?_
            (case aP=>exact Kd.M_row (Kd.R_mono (Kd.R_tight rfl (Kd.R_mono (ok':=fun k_=>((fun _=>True)) k_∧some k_≠(ay:Value).ownBlock) (Kd.R_apart' (cN.out) (Kd.S_typed aa.out) (by decide)) (fun k_ hk=>⟨trivial,hk.2⟩))) (fun _ h_=>h_)))
            (case aB=>exact(sq_below3 HB.out az.out aC.out aI.out))
            (case aF=>exact(fun _ _=>trivial))
            (case aO=>exact(by(with_reducible repeat(first|apply Kd.S_alloc|apply Kd.S_drewN|apply Kd.S_drew));exact Kd.S_mono aa.out (fun k_ hk=>⟨trivial,fun e_=>hk.2 e_⟩)))
            (case aS=>exact(below_size (sq_below3 HB.out az.out aC.out aI.out)))
            (case aL=>have:=eo.out;omega)
            intro v249 jl ho hb hg hat;rw [← eu.out]at ho;replace af:=am_ (Kd.R_over' (sq_row af.out) (Kd.S_typed (by(with_reducible repeat(first|apply Kd.S_alloc|apply Kd.S_drewN|apply Kd.S_drew));exact aa.out)) (by decide) hg);replace ae:=am_ (Kd.R_over' (sq_row ae.out) (Kd.S_typed (by(with_reducible repeat(first|apply Kd.S_alloc|apply Kd.S_drewN|apply Kd.S_drew));exact aa.out)) (by decide) hg);replace ah:=bgS_ ah aa hg;replace aj:=bgS_ aj aa hg;replace ac:=bgS_ ac aa hg;replace HB:=am_ hb;have dJ:=am_ ho;clear aa cN;clear ho hb hg hat;obtain⟨dp,dx,eE⟩:=Kd.S_slice dJ.out
            (first|subst eE|(injection eE with f1_ f2_ f3_;have f4_:=f1_.symm;have f5_:=f3_.symm;clear f1_ f2_ f3_;subst f4_;subst f5_))
            refine hK.out _ _ ⟨cl_ ac 0,cl_ ac 1,cl_ ac 2,(cb_ HB bG),(cb_ HB bH),(cb_ HB bI)⟩ (fun hHeld=>?_);clear hK K;refine norm_y 79 (h:=?_)
            refine py_ HT_ 11 80 ?_
            refine ly_ HT_ 12 none (fun K hK=>?_);have jh:jl.cell? ⟨aA,0,none⟩=some (ay):=(blk_cell ac.out 0).trans rfl;have iy:=blk_frozen ac.out 0;have gJ:=aK.out;have gK:=aM.out;have fZ:=br.out;have f7:=bu.out;refine skip_ (w1:=?_) (by rfl) rfl ?_ ?_;rotate_left
            ·
             go_simp;rfl
            refine hK.out _ _ ?_;clear hK K;refine done_ (done_of HT_.out (by kernel_rfl)) ?_
            try go_wp2
            go_roundg cW
            case measure=>have:=HK1.out;have:=HJ11.out;omega
            case rel=>exact⟨(aQ),(wrap64 (aq+1)),(cZ),(ax),(aw),(.slice dp cZ.length dx),(a8),(aU),sr_,sr_,H',⟨by have:=HK1.out;have:=HJ11.out;omega⟩,⟨by(with_reducible repeat(first|apply Kd.S_alloc|apply Kd.S_drewN|apply Kd.S_drew));exact Kd.S_mono (Kd.S_far (p:=⟨aA,0,none⟩) (Kd.S_types dJ.out ac.out (by decide)) (fun _ hk=>hk.2) (.slice dp cZ.length dx)) (fun _ hk=>trivial)⟩,⟨by(with_reducible repeat(first|apply Kd.R_alloc|apply Kd.R_drewN|apply Kd.R_drew));exact Kd.R_mono (Kd.R_far (p:=⟨aA,0,none⟩) (Kd.R_types af.out ac.out (by decide)) (fun _ hk=>hk.2) (.slice dp cZ.length dx)) (fun _ hk=>trivial)⟩,⟨by(with_reducible repeat(first|apply Kd.R_alloc|apply Kd.R_drewN|apply Kd.R_drew));exact Kd.R_mono (Kd.R_far (p:=⟨aA,0,none⟩) (Kd.R_types ae.out ac.out (by decide)) (fun _ hk=>hk.2) (.slice dp cZ.length dx)) (fun _ hk=>trivial)⟩,bf_ ah aK,bf_ aj aM,⟨by(with_reducible repeat(first|refine blk_drewN ?_ _|refine blk_drew ?_|refine blk_alloc ?_ _));refine blk_put (cs:=#[ay,a8,aU]) ?_ 0 _ rfl;(with_reducible repeat(first|refine blk_drewN ?_ _|refine blk_drew ?_|refine blk_alloc ?_ _));exact ac.out⟩,⟨sq_below3 HB.out az.out aC.out aI.out⟩⟩
           ·
            rw [if_neg c73]at H;exact absurd H (by simp)
          ·
           rw [if_neg c72]at H;exact absurd H (by simp)
         ·
          rw [if_neg c71]at H;exact absurd H (by simp)
        ·
         rw [if_neg c70]at H;exact absurd H (by simp)
    ·
     rw [if_neg c11]at H;exact absurd H (by simp)
   ·
    rw [if_neg c10]at H;have dd:=decide_eq_false (p:=aq<(l1.length:Int)) c10;clear c10;simp only [Option.some.injEq,Prod.mk.injEq]at H;obtain⟨rfl,rfl,rfl⟩:=H;have iK:=bu.out;have iW:=aM.out;obtain⟨fa,fb,fc,fy,fz,fA⟩:=cz3_ ac;obtain⟨dq,dy,gW⟩:=Kd.S_slice aa.out;subst gW;obtain⟨fd,fe,ff,fB,fC,fD⟩:=cz3_ aj;obtain⟨dr,dz,gX⟩:=Kd.R_slice af.out;subst gX;obtain⟨dt,dA,gY⟩:=Kd.R_slice ae.out;subst gY
    go_wp2
    refine bodyPost_ret (results_cell_row rfl _ _ bo 32 #[.slice dq ag.length dy,.slice dr ax.length dz,.slice dt aw.length dA] (0,0) _ rfl (bp_ aj) Tryd.underlying32 rfl (by kernel_rfl)) rfl ?_;exact⟨_,_,_,by first|rfl|(simp [errW_none,errW_some]<;>rfl)|(simp [*,errW_none,errW_some]<;>rfl),by(with_reducible repeat(first|apply Kd.S_alloc|apply Kd.S_drewN|apply Kd.S_drew));exact Kd.S_mono (Kd.S_far (p:=⟨bo,2,none⟩) (Kd.S_far (p:=⟨bo,1,none⟩) (Kd.S_far (p:=⟨bo,0,none⟩) (Kd.S_types aa.out aj.out (by decide)) (fun _ hk=>hk.2) (.slice dq ag.length dy)) (fun _ hk=>hk.2) (.slice dr ax.length dz)) (fun _ hk=>hk.2) (.slice dt aw.length dA)) (fun _ hk=>trivial),by(with_reducible repeat(first|apply Kd.R_alloc|apply Kd.R_drewN|apply Kd.R_drew));exact Kd.R_mono (Kd.R_far (p:=⟨bo,2,none⟩) (Kd.R_far (p:=⟨bo,1,none⟩) (Kd.R_far (p:=⟨bo,0,none⟩) (Kd.R_types af.out aj.out (by decide)) (fun _ hk=>hk.2) (.slice dq ag.length dy)) (fun _ hk=>hk.2) (.slice dr ax.length dz)) (fun _ hk=>hk.2) (.slice dt aw.length dA)) (fun _ hk=>trivial),by(with_reducible repeat(first|apply Kd.R_alloc|apply Kd.R_drewN|apply Kd.R_drew));exact Kd.R_mono (Kd.R_far (p:=⟨bo,2,none⟩) (Kd.R_far (p:=⟨bo,1,none⟩) (Kd.R_far (p:=⟨bo,0,none⟩) (Kd.R_types ae.out aj.out (by decide)) (fun _ hk=>hk.2) (.slice dq ag.length dy)) (fun _ hk=>hk.2) (.slice dr ax.length dz)) (fun _ hk=>hk.2) (.slice dt aw.length dA)) (fun _ hk=>trivial),sq_below1 HB.out aC.out⟩
end Go.Proofs.YtcdeojfeebmonaaDoor.Q
