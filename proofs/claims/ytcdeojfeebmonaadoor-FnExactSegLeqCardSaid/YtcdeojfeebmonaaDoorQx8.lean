/- Functions of the translation as Lean functions, each with a proof that a call answers so; out of the seat, by this claim's own program prt.py. -/
import Derived.Test.YtcdeojfeebmonaaDoorWTab
import Derived.Test.YtcdeojfeebmonaaDoorWRepsOne
import Derived.Test.YtcdeojfeebmonaaDoorWGuard
import Derived.Test.YtcdeojfeebmonaaDoorQx0
import Derived.Test.YtcdeojfeebmonaaDoorQx4
import Derived.Test.YtcdeojfeebmonaaDoorQStep3
namespace Go.Proofs.YtcdeojfeebmonaaDoor.Q
open Go.RowKit Go.Proofs.YtcdeojfeebmonaaDoorW.PrintWords Go.Proofs.YtcdeojfeebmonaaDoorW.PrintLast Go.Proofs.YtcdeojfeebmonaaDoorW.PrintMore
attribute [local go_sem] max2_int min2_int max_two min_two max_three min_three max_four min_four
set_option linter.unusedVariables false
set_option maxHeartbeats 8000000
set_option maxRecDepth 100000
set_option linter.unusedSimpArgs false
mutual
def spec_l11Kept.l0:Nat→List (S98)→Int→List (List (S53))→List (S60)→List Bool→List (List (S53))→List (S60)→List Bool→Option ((List (S98)))
 |0,_,_,_,_,_,_,_,_=>none
 |k+1,x5,x6,ax,aV,aW,aJ,aX,aY=>if x6<(ax.length:Int)then(spec_l11Kept.l1 k x5 x6 0 ax aV aW aJ aX aY)else(if(x5.length:Int) > 16 then(if 0≤(wrap64 ((x5.length:Int)-1))then(if(wrap64 ((x5.length:Int)-1))<(x5.length:Int)then(if 15≤(x5.length:Int)then((some (x5.take (15:Int).toNat:List (S98))).bind fun bu=>(if bu.length<3518437208883 then(some (bu++[(⟨(rd_T98 x5 (wrap64 ((x5.length:Int)-1))).f0,(rd_T98 x5 (wrap64 ((x5.length:Int)-1))).f1,(rd_T98 x5 (wrap64 ((x5.length:Int)-1))).f2⟩:S98)]))else(none)))else(none))else(none))else(none))else(some x5))
def spec_l11Kept.l1:Nat→List (S98)→Int→Int→List (List (S53))→List (S60)→List Bool→List (List (S53))→List (S60)→List Bool→Option ((List (S98)))
 |0,_,_,_,_,_,_,_,_,_=>none
 |k+1,x5,x6,x7,ax,aV,aW,aJ,aX,aY=>if x7<(aJ.length:Int)then(spec_l11Kept.l2 k x5 x6 x7 0 ax aV aW aJ aX aY x6 x7 ([]:List (S53)))else(spec_l11Kept.l0 k x5 (wrap64 (x6+1)) ax aV aW aJ aX aY)
def spec_l11Kept.l2:Nat→List (S98)→Int→Int→Int→List (List (S53))→List (S60)→List Bool→List (List (S53))→List (S60)→List Bool→Int→Int→List (S53)→Option ((List (S98)))
 |0,_,_,_,_,_,_,_,_,_,_,_,_,_=>none
 |k+1,x5,x6,x7,x9,ax,aV,aW,aJ,aX,aY,bX,bY,br=>if 0≤x6 then(if x6<(ax.length:Int)then(if x9<((rd_L7 ax x6).length:Int)then(if 0≤x7 then(if x7<(aJ.length:Int)then(if 0≤x9 then((spec_l10Find.f k (rd_L7 aJ x7) ((rd_T53 (rd_L7 ax x6) x9).f0) ((rd_T53 (rd_L7 ax x6) x9).f1)).bind fun cH=>(if cH≥0 then(if br.length<8796093022208 then(spec_l11Kept.l2 k x5 x6 x7 (wrap64 (x9+1)) ax aV aW aJ aX aY bX bY (br++[(⟨(rd_T53 (rd_L7 ax x6) x9).f0,(rd_T53 (rd_L7 ax x6) x9).f1⟩:S53)]))else(none))else(spec_l11Kept.l2 k x5 x6 x7 (wrap64 (x9+1)) ax aV aW aJ aX aY bX bY br)))else(none))else(none))else(none))else(if(br.length:Int) > 0 then(if(x5.length:Int)=0 then(if x5.length<3518437208883 then(spec_l11Kept.l1 k (x5++[(⟨bX,bY,br⟩:S98)]) x6 (wrap64 (x7+1)) ax aV aW aJ aX aY)else(none))else(if 0≤(wrap64 ((x5.length:Int)-1))then(if(wrap64 ((x5.length:Int)-1))<(x5.length:Int)then(if x7≥((rd_T98 x5 (wrap64 ((x5.length:Int)-1))).f1)then(if x5.length<3518437208883 then(spec_l11Kept.l1 k (x5++[(⟨bX,bY,br⟩:S98)]) x6 (wrap64 (x7+1)) ax aV aW aJ aX aY)else(none))else(spec_l11Kept.l1 k x5 x6 (wrap64 (x7+1)) ax aV aW aJ aX aY))else(none))else(none)))else(spec_l11Kept.l1 k x5 x6 (wrap64 (x7+1)) ax aV aW aJ aX aY)))else(none))else(none)
end
def spec_l11Kept.f(k:Nat)(ai:List (List (S53)))(aT:List (S60))(aU:List Bool)(aH:List (List (S53)))(aZ:List (S60))(a8:List Bool):Option ((List (S98))):=spec_l11Kept.l0 k (([]:List (S98))) 0 ai aT aU aH aZ a8
theorem spec_l11Kept.mono_l:∀ k,(∀ y0 y1 y2 y3 y4 y5 y6 y7,LeO (spec_l11Kept.l0 k y0 y1 y2 y3 y4 y5 y6 y7) (spec_l11Kept.l0 (k+1) y0 y1 y2 y3 y4 y5 y6 y7))∧(∀ y0 y1 y2 y3 y4 y5 y6 y7 y8,LeO (spec_l11Kept.l1 k y0 y1 y2 y3 y4 y5 y6 y7 y8) (spec_l11Kept.l1 (k+1) y0 y1 y2 y3 y4 y5 y6 y7 y8))∧(∀ y0 y1 y2 y3 y4 y5 y6 y7 y8 y9 js jt ju,LeO (spec_l11Kept.l2 k y0 y1 y2 y3 y4 y5 y6 y7 y8 y9 js jt ju) (spec_l11Kept.l2 (k+1) y0 y1 y2 y3 y4 y5 y6 y7 y8 y9 js jt ju))
 |0=>⟨fun _ _ _ _ _ _ _ _ r h=>by simp [spec_l11Kept.l0]at h,fun _ _ _ _ _ _ _ _ _ r h=>by simp [spec_l11Kept.l1]at h,fun _ _ _ _ _ _ _ _ _ _ _ _ _ r h=>by simp [spec_l11Kept.l2]at h⟩
 |k+1=>by
  obtain⟨ih0,ih1,ih2⟩:=spec_l11Kept.mono_l k;refine⟨?_,?_,?_⟩
  all_goals (intros;first|unfold spec_l11Kept.l0|unfold spec_l11Kept.l1|unfold spec_l11Kept.l2)
  all_goals repeat' first
   |(with_reducible exact ih0 _ _ _ _ _ _ _ _)|(with_reducible exact ih1 _ _ _ _ _ _ _ _ _)|(with_reducible exact ih2 _ _ _ _ _ _ _ _ _ _ _ _ _)|(with_reducible exact spec_l10Find.mono _ _ _ _)|(with_reducible exact LeO.refl _)|(with_reducible exact LeO.none _)|(with_reducible refine LeO.ite ?_ ?_)|(with_reducible refine LeO.bind ?_ fun _=>?_)|exact ih0 _ _ _ _ _ _ _ _|exact ih1 _ _ _ _ _ _ _ _ _|exact ih2 _ _ _ _ _ _ _ _ _ _ _ _ _|exact spec_l10Find.mono _ _ _ _|exact LeO.none _|refine LeO.ite ?_ ?_|refine LeO.bind ?_ fun _=>?_
theorem spec_l11Kept.mono:∀ a0 a1 a2 a3 a4 a5 k,LeO (spec_l11Kept.f k a0 a1 a2 a3 a4 a5) (spec_l11Kept.f (k+1) a0 a1 a2 a3 a4 a5):=by
 intro a0 a1 a2 a3 a4 a5 k;obtain⟨ih0,ih1,ih2⟩:=spec_l11Kept.mono_l k;unfold spec_l11Kept.f
 repeat' first
   |(with_reducible exact ih0 _ _ _ _ _ _ _ _)|(with_reducible exact ih1 _ _ _ _ _ _ _ _ _)|(with_reducible exact ih2 _ _ _ _ _ _ _ _ _ _ _ _ _)|(with_reducible exact spec_l10Find.mono _ _ _ _)|(with_reducible exact LeO.refl _)|(with_reducible exact LeO.none _)|(with_reducible refine LeO.ite ?_ ?_)|(with_reducible refine LeO.bind ?_ fun _=>?_)|exact ih0 _ _ _ _ _ _ _ _|exact ih1 _ _ _ _ _ _ _ _ _|exact ih2 _ _ _ _ _ _ _ _ _ _ _ _ _|exact spec_l10Find.mono _ _ _ _|exact LeO.none _|refine LeO.ite ?_ ?_|refine LeO.bind ?_ fun _=>?_
def spec_l11Kept.T12:Bool×List (List Nat×List Nat):=(true,[([],[]),([0],[0]),([],[]),([1,2],[1,2]),([3],[3]),([],[]),([5],[5]),([],[]),([6,7],[6,7]),([8],[8]),([],[]),([9,10],[9,10]),([11],[11]),([4,12],[4,12]),([13],[13])])
def spec_l11Kept.B12:List Nat:=[0,1,0,7,15,0,32,0,224,480,0,2016,4064,8191,16383]
theorem spec_l11Kept.tab12:rtab .any (opsOf Tryd.f43 12)=spec_l11Kept.T12:=by kernel_rfl
theorem spec_l11Kept.bits12:waitsOk spec_l11Kept.T12.2 spec_l11Kept.B12=true:=by kernel_rfl
def spec_l11Kept.T13:Bool×List (List Nat×List Nat):=(true,[([],[]),([0],[0]),([],[]),([2],[2]),([],[]),([3,4],[3,4]),([5],[5]),([],[]),([6,7],[6,7]),([8],[8]),([9],[9]),([1,10],[1,10]),([0,1,2,3,4,5,6,7,8,9,10,11],[]),([12,11,11,0,1,2,3,4,5,6,7,8,9,10,11],[11,12])])
def spec_l11Kept.B13:List Nat:=[0,1,0,4,0,28,60,0,252,508,1020,2047,4095,8191]
theorem spec_l11Kept.tab13:rtab .any (opsOf Tryd.f43 13)=spec_l11Kept.T13:=by kernel_rfl
theorem spec_l11Kept.bits13:waitsOk spec_l11Kept.T13.2 spec_l11Kept.B13=true:=by kernel_rfl
theorem spec_l11Kept.calls(k:Nat)(cx:Option Addr)(bF:Nat)(ai:List (List (S53)))(bw:Option Addr)(bG:Nat)(aT:List (S60))(bx:Option Addr)(bH:Nat)(aU:List Bool)(b4:Option Addr)(bO:Nat)(aH:List (List (S53)))(bM:Option Addr)(bP:Nat)(aZ:List (S60))(bN:Option Addr)(bQ:Nat)(a8:List Bool)(r:List (S98))(w:World)(dP:Kd.C (Kd.slice 53 k53) w cx ai.length ai)(dI:ai.length≤bF)(dQ:Kd.C k60 w bw aT.length aT)(dJ:aT.length≤bG)(dR:Kd.C Kd.bool w bx aU.length aU)(dK:aU.length≤bH)(dS:Kd.C (Kd.slice 53 k53) w b4 aH.length aH)(dL:aH.length≤bO)(dT:Kd.C k60 w bM aZ.length aZ)(dM:aZ.length≤bP)(dU:Kd.C Kd.bool w bN a8.length a8)(dN:a8.length≤bQ)(h:spec_l11Kept.f k ai aT aU aH aZ a8=some r) :
  Calls Tryd.prog 43 #[.agg #[.slice cx ai.length bF,.slice bw aT.length bG,.slice bx aU.length bH],.agg #[.slice b4 aH.length bO,.slice bM aZ.length bP,.slice bN a8.length bQ]] w fun e w'=>∃ v0_:Value,e=.returned (v0_)∧Kd.N k98 98 w' w.heap.size (fun k_=>(w.heap.size≤k_)) v0_ r∧Below w.heap.size w w':=by
 have hu32:=Tryd.underlying32;have hu98:=Tryd.underlying98;have hu53:=Tryd.underlying53;have bA:=am_ dP;have ii:=am_ dI;clear dP dI;have ip:=am_ dQ;have ij:=am_ dJ;clear dQ dJ;have iq:=am_ dR;have ik:=am_ dK;clear dR dK;have dE:=am_ dS;have il:=am_ dL;clear dS dL;have ir:=am_ dT;have im:=am_ dM;clear dT dM;have iu:=am_ dU;have io:=am_ dN;clear dU dN;have HB:=am_ (Below.refl w.heap.size w);have H:(spec_l11Kept.l0 k (([]:List (S98))) 0 ai aT aU aH aZ a8)=some r:=h;clear h;obtain⟨eM,ck⟩:∃ y_:List (S98),y_=(([]:List (S98))):=⟨_,rfl⟩;replace H:(spec_l11Kept.l0 k eM 0 ai aT aU aH aZ a8)=some r:=by first|(rw [ck];with_reducible exact H)|(have H2_:=(Option.bind_some _ _).symm.trans H;rw [ck];with_reducible exact H2_)|(have H2_:=(Option.bind_some _ _).symm.trans H;with_reducible exact H2_)|with_reducible exact H|(rw [ck];exact H)|exact H
 have dF:=am_ ck;clear ck;have H':=am_ H;clear H
 go_enter Tryd.func43,Tryd.ntmps43
 go_wp2_with (first|((with_reducible refine gate_dst (N:=2) rfl ?_);(try(refine gate_guard (by rfl) ?_;dsimp only));refine box_y 2 #[.slice cx ai.length bF,.slice bw aT.length bG,.slice bx aU.length bH] 32 (h:=?_);intro ar hg w3 hbox hb;have aa:=am_ hbox;have ib:=gz_ hg HB;have ay:=gz_ hg HB;replace HB:=hb_ HB hb;clear hb hbox hg)|((with_reducible refine gate_dst (N:=3) rfl ?_);(try(refine gate_guard (by rfl) ?_;dsimp only));refine box_y 3 #[.slice b4 aH.length bO,.slice bM aZ.length bP,.slice bN a8.length bQ] 32 (h:=?_);intro aw hg w4 hbox hb;have ag:=am_ hbox;have ic:=gz1_ hg HB ay;have aD:=gz1_ hg HB ay;replace HB:=hb1_ HB hb ay;have aI:=nb_ hg aa;replace aa:=bb_ aa hb;have aK:=ns_ aI;clear hb hbox hg)|((with_reducible refine gate_dst (N:=11) rfl ?_);(try(refine gate_guard (by rfl) ?_;dsimp only));refine Kd.N_lit k98 _ 98 ?hg (N':=11) ?hd (xs:=([]:List (S98))) (inner:=[]) (ok:=(fun k_=>(w.heap.size≤k_)∧k_≠ar∧k_≠aw)) (okp:=(fun k_=>(w.heap.size≤k_)∧k_≠ar∧k_≠aw)) ?hr ?hp (fun _ hk=>hk) ((show ∀ k_,w4.heap.size≤k_→(fun k_=>(w.heap.size≤k_)∧k_≠ar∧k_≠aw) k_ from fun k_ hk=>⟨(Nat.le_trans (below_size (sq_below2 HB.out ay.out aD.out)) hk),Kd.freshB (g:=ar) (o:=.cells #[.slice cx ai.length bF,.slice bw aT.length bG,.slice bx aU.length bH] 32 (0,0)) (sq_blk aa.out) k_ hk,Kd.freshB (g:=aw) (o:=.cells #[.slice b4 aH.length bO,.slice bM aZ.length bP,.slice bN a8.length bQ] 32 (0,0)) (sq_blk ag.out) k_ hk⟩) _ (Nat.le_refl _)) (Below.refl _ _) (Nat.le_refl _) (by simp) ?_;(case hd=>rfl);(case hg=>rfl);(case hr=>first|(go_simp;done)|(go_simp;rfl));(case hp=>exact(Reps.none _ _));intro v151 w5 ho6 hb hg_ hnew_;clear hg_ hnew_;(first|rw [← dF.out]at ho6|(simp only [Int.reduceToNat]at ho6;rw [← dF.out]at ho6));have em:=am_ (Kd.N_lower ho6 (below_size (sq_below2 HB.out ay.out aD.out)));replace aa:=bb_ aa hb;replace ag:=bb_ ag hb;replace HB:=hb2_ HB hb ay aD;clear hb ho6))
 go_loopg [5,6] k (fun kq v5 v6 w'=>∃ (ah:List (S98)) (ae:Int),v6=.int .i64 ae∧Aside0 (spec_l11Kept.l0 kq ah ae ai aT aU aH aZ a8=some r)∧Aside0 (kq≤k)∧Aside0 (Kd.N k98 98 w' w.heap.size (fun k_=>(w.heap.size≤k_)∧k_≠ar∧k_≠aw) v5 ah)∧Aside0 (w'.heap[ar]?=some (.cells #[(.slice cx ai.length bF),(.slice bw aT.length bG),(.slice bx aU.length bH)] 32 (0,0)))∧Aside0 (w'.heap[aw]?=some (.cells #[(.slice b4 aH.length bO),(.slice bM aZ.length bP),(.slice bN a8.length bQ)] 32 (0,0)))∧Aside0 (Below w.heap.size w w'))
 case atStart=>exact⟨(eM),(0),sr_,H',⟨Nat.le_refl _⟩,⟨by(with_reducible repeat(first|apply Kd.N_alloc|apply Kd.N_drewN|apply Kd.N_drew));exact em.out⟩,bk_ aa,bk_ ag,⟨sq_below2 HB.out ay.out aD.out⟩⟩
 case round =>
  clear H'
  obtain⟨ah,ae,rfl,HA,HK1,ao,aa,ag,HB⟩:=hrel;cases gk with
  |zero=>exact absurd HA.out (by simp [spec_l11Kept.l0])
  |succ k1 =>
   have H:=HA.out;clear HA;simp only [spec_l11Kept.l0]at H
   by_cases c7:ae<(ai.length:Int)
   ·
    rw [if_pos c7]at H;have d6:=decide_eq_true (p:=ae<(ai.length:Int)) c7;clear c7;have H':=am_ H;clear H;have jF:=aI.out;have jG:=aK.out;obtain⟨cO,cP,cQ,cR,cS,cT⟩:=cz3_ aa
    go_wp2
    go_loopg [5,7] k1 (fun kq v5 v7 w'=>∃ (az:List (S98)) (ap:Int),v7=.int .i64 ap∧Aside0 (spec_l11Kept.l1 kq az ae ap ai aT aU aH aZ a8=some r)∧Aside0 (kq≤k1)∧Aside0 (Kd.N k98 98 w' w.heap.size (fun k_=>(w.heap.size≤k_)∧k_≠ar∧k_≠aw) v5 az)∧Aside0 (w'.heap[ar]?=some (.cells #[(.slice cx ai.length bF),(.slice bw aT.length bG),(.slice bx aU.length bH)] 32 (0,0)))∧Aside0 (w'.heap[aw]?=some (.cells #[(.slice b4 aH.length bO),(.slice bM aZ.length bP),(.slice bN a8.length bQ)] 32 (0,0)))∧Aside0 (Below w.heap.size w w'))
    case atStart=>exact⟨(ah),(0),sr_,H',⟨Nat.le_refl _⟩,⟨by(with_reducible repeat(first|apply Kd.N_alloc|apply Kd.N_drewN|apply Kd.N_drew));exact ao.out⟩,bk_ aa,bk_ ag,⟨sq_below2 HB.out ay.out aD.out⟩⟩
    case round =>
     clear H'
     obtain⟨az,ap,rfl,HA,HK2,ao,aa,ag,HB⟩:=hrel;cases gk with
     |zero=>exact absurd HA.out (by simp [spec_l11Kept.l1])
     |succ k2 =>
      have H:=HA.out;clear HA;simp only [spec_l11Kept.l1]at H
      by_cases c10:ap<(aH.length:Int)
      ·
       rw [if_pos c10]at H;have dH:=decide_eq_true (p:=ap<(aH.length:Int)) c10;clear c10;have H':=am_ H;clear H;have iI:=aK.out;have i7:=aI.out;obtain⟨dg,dh,di,dn,dp,dq⟩:=cz3_ ag
       go_wp2_with (first|((with_reducible refine gate_dst (N:=8) rfl ?_);(try(refine gate_guard (by rfl) ?_;dsimp only));refine box_y 8 #[.int .i64 0,.int .i64 0,.slice none 0 0] 98 (h:=?_);intro aC hg jM hbox hb;replace ao:=am_ (Kd.N_below (Kd.N_elderB (by(with_reducible repeat(first|apply Kd.N_alloc|apply Kd.N_drewN|apply Kd.N_drew));exact ao.out) aC (Nat.le_of_eq hg.symm)) hb);have aj:=am_ hbox;have ig:=gz2_ hg HB ay aD;have a9:=gz2_ hg HB ay aD;replace HB:=hb2_ HB hb ay aD;have aG:=nb_ hg aa;replace aa:=bb_ aa hb;have aN:=ns_ aG;have aM:=nb_ hg ag;replace ag:=bb_ ag hb;have bn:=ns_ aM;clear hb hbox hg;have iJ:=aN.out;have i8:=aG.out;have iK:=bn.out;have i9:=aM.out;obtain⟨dj,dk,dl,dr,dt,dw⟩:=cz3_ aj))
       go_loopg [9] k2 (fun kq v9 w'=>∃ (au:Int) (af:List (S53)) (bk:Value),v9=.int .i64 au∧Aside0 (spec_l11Kept.l2 kq az ae ap au ai aT aU aH aZ a8 ae ap af=some r)∧Aside0 (kq≤k2)∧Aside0 (Kd.N k98 98 w' w.heap.size (fun k_=>(w.heap.size≤k_)∧some k_≠(bk:Value).ownBlock∧k_≠ar∧k_≠aw∧k_≠aC) u5 az)∧Aside0 (Kd.R k53 53 w' w.heap.size (fun k_=>(w.heap.size≤k_)) bk af)∧Aside0 (w'.heap[ar]?=some (.cells #[(.slice cx ai.length bF),(.slice bw aT.length bG),(.slice bx aU.length bH)] 32 (0,0)))∧Aside0 (w'.heap[aw]?=some (.cells #[(.slice b4 aH.length bO),(.slice bM aZ.length bP),(.slice bN a8.length bQ)] 32 (0,0)))∧Aside0 (w'.heap[aC]?=some (.cells #[.int .i64 ae,.int .i64 ap,bk] 98 (0,0)))∧Aside0 (Below w.heap.size w w'))
       case atStart=>exact⟨(0),(([]:List (S53))),(.slice none 0 0),sr_,H',⟨Nat.le_refl _⟩,⟨by(with_reducible repeat(first|apply Kd.N_alloc|apply Kd.N_drewN|apply Kd.N_drew));exact Kd.N_mono (Kd.N_far (p:=⟨aC,2,none⟩) (Kd.N_far (p:=⟨aC,1,none⟩) (Kd.N_far (p:=⟨aC,0,none⟩) (Kd.N_mono ao.out (fun k_ hk=>(⟨hk,hk.2⟩:_∧k_≠aC))) (fun _ hk=>hk.2) (.int .i64 ae)) (fun _ hk=>hk.2) (.int .i64 ap)) (fun _ hk=>hk.2) (.slice none 0 0)) (fun _ hk=>⟨hk.1.1.1,⟨(by simp [Value.ownBlock]),⟨hk.1.1.2.1,⟨hk.1.1.2.2,hk.1.2⟩⟩⟩⟩)⟩,nl_,bf_ aa aG,bf_ ag aM,⟨by(with_reducible repeat(first|refine blk_drewN ?_ _|refine blk_drew ?_|refine blk_alloc ?_ _));refine blk_put (cs:=#[.int .i64 ae,.int .i64 ap,.slice none 0 0]) ?_ 2 _ rfl;(with_reducible repeat(first|refine blk_drewN ?_ _|refine blk_drew ?_|refine blk_alloc ?_ _));refine blk_put (cs:=#[.int .i64 ae,.int .i64 0,.slice none 0 0]) ?_ 1 _ rfl;(with_reducible repeat(first|refine blk_drewN ?_ _|refine blk_drew ?_|refine blk_alloc ?_ _));refine blk_put (cs:=#[.int .i64 0,.int .i64 0,.slice none 0 0]) ?_ 0 _ rfl;(with_reducible repeat(first|refine blk_drewN ?_ _|refine blk_drew ?_|refine blk_alloc ?_ _));exact aj.out⟩,⟨sq_below3 HB.out ay.out aD.out a9.out⟩⟩
       case round =>
        clear H'
        obtain⟨au,af,bk,rfl,HA,HK3,ao,ac,aa,ag,aj,HB⟩:=hrel;cases gk with
        |zero=>exact absurd HA.out (by simp [spec_l11Kept.l2])
        |succ k3 =>
         have H:=HA.out;clear HA;simp only [spec_l11Kept.l2]at H
         by_cases c17:0≤ae
         ·
          rw [if_pos c17]at H;have iv:=decide_eq_true (p:=0≤ae) c17;clear c17
          by_cases c18:ae<(ai.length:Int)
          ·
           rw [if_pos c18]at H;have iw:=decide_eq_true (p:=ae<(ai.length:Int)) c18;clear c18
           by_cases c19:au<((rd_L7 ai ae).length:Int)
           ·
            rw [if_pos c19]at H;have ez:=decide_eq_true (p:=au<((rd_L7 ai ae).length:Int)) c19;clear c19
            by_cases c20:0≤ap
            ·
             rw [if_pos c20]at H;have ix:=decide_eq_true (p:=0≤ap) c20;clear c20
             by_cases c21:ap<(aH.length:Int)
             ·
              rw [if_pos c21]at H;have iy:=decide_eq_true (p:=ap<(aH.length:Int)) c21;clear c21
              by_cases c22:0≤au
              ·
               rw [if_pos c22]at H;have iz:=decide_eq_true (p:=0≤au) c22;clear c22;obtain⟨cH,A23,H⟩:=be_ H;(try dsimp only at H)
               by_cases c24:cH≥0
               ·
                rw [if_pos c24]at H;have eA:=decide_eq_true (p:=0≤cH) c24;clear c24
                by_cases c25:af.length<8796093022208
                ·
                 rw [if_pos c25]at H;have eq:=am_ c25;clear c25;obtain⟨cX,cp⟩:∃ y_:List (S53),y_=(af++[(⟨(rd_T53 (rd_L7 ai ae) au).f0,(rd_T53 (rd_L7 ai ae) au).f1⟩:S53)]):=⟨_,rfl⟩;replace H:(spec_l11Kept.l2 k3 az ae ap (wrap64 (au+1)) ai aT aU aH aZ a8 ae ap cX)=some r:=by first|(rw [cp];with_reducible exact H)|(have H2_:=(Option.bind_some _ _).symm.trans H;rw [cp];with_reducible exact H2_)|(have H2_:=(Option.bind_some _ _).symm.trans H;with_reducible exact H2_)|with_reducible exact H|(rw [cp];exact H)|exact H
                 have ev:=am_ cp;clear cp;have H':=am_ H;clear H;have iL:=aI.out;have ja:=aK.out;have iM:=aG.out;have jb:=aN.out;obtain⟨eR,eS,eT,fI,fJ,fK⟩:=cz3_ aa;have bo:0≤(ae:Int):=sq_dec;have bp:ae<(ai.length:Int):=sq_dec;obtain⟨ba,bZ,b6,b8,aA,hl162_0,hi162_0⟩:=at_L7 bA.out ae bo bp;cases b8;replace aA:=cb_ HB aA;have bB:=am_ hi162_0;have bz:=am_ hl162_0;clear hi162_0 hl162_0;replace bo:=eq_true bo;replace bp:=eq_true bp
                 try go_wp2
                 replace ao:=am_ (Kd.N_drew ao.out);replace ac:=rd_ ac;replace aa:=bd_ aa;replace ag:=bd_ ag;replace aj:=bd_ aj;replace HB:=hd_ HB;have cA:0≤(ap:Int):=sq_dec;have cD:ap<(aH.length:Int):=sq_dec;obtain⟨ch,b3,b7,d9,bg,hl163_0,hi163_0⟩:=at_L7 dE.out ap cA cD;have bI:=bg;cases d9;replace bg:=cb_ HB bg;have bC:=am_ hi163_0;have b9:=am_ hl163_0;clear hi163_0 hl163_0;replace cA:=eq_true cA;replace cD:=eq_true cD;have cB:0≤(ae:Int):=sq_dec;have cF:ae<(ai.length:Int):=sq_dec;obtain⟨cN,dV,cy,ec,bh,hl164_0,hi164_0⟩:=at_L7 bA.out ae cB cF;have bJ:=bh;obtain rfl:ba=cN:=(by injection ec);replace bh:=cb_ HB bh;have bD:=am_ hi164_0;have da:=am_ hl164_0;clear hi164_0 hl164_0;replace cB:=eq_true cB;replace cF:=eq_true cF;have cC:0≤(au:Int):=sq_dec;have cG:au<((rd_L7 ai ae).length:Int):=sq_dec;obtain⟨bE,ed,bi,bj⟩:=at_T53 bD.out au cC cG;have bL:=bj;have bK:=bi;cases ed;replace bi:=cb_ HB bi;replace bj:=cb_ HB bj;replace cC:=eq_true cC;replace cG:=eq_true cG;refine start_ (n:=15) (S:=fun w'=>w'.cell? ⟨aw,0,none⟩=some (.slice (some ch) aH.length bO)∧w'.cell? ⟨aw,1,none⟩=some (.slice bM aZ.length bP)∧w'.cell? ⟨aw,2,none⟩=some (.slice bN a8.length bQ)∧w'.cell? ⟨ar,0,none⟩=some (.slice (some ba) ai.length bF)∧w'.cell? ⟨ar,1,none⟩=some (.slice bw aT.length bG)∧w'.cell? ⟨ar,2,none⟩=some (.slice bx aU.length bH)∧w'.cell? (ch.add (ap).toNat)=some (.slice b3 (rd_L7 aH ap).length b7)∧w'.cell? (ba.add (ae).toNat)=some (.slice (some bE) (rd_L7 ai ae).length cy)∧w'.cell? (bE.add ((au).toNat*2))=some (.int .i64 ((rd_T53 (rd_L7 ai ae) au).f0))∧w'.cell? ⟨(bE.add ((au).toNat*2)).block,(bE.add ((au).toNat*2)).off+1,none⟩=some (.int .i64 ((rd_T53 (rd_L7 ai ae) au).f1))) (ds:=[]) #[false,false,false,false,false,false,false,false,false,false,false,false,false,false,false] (by kernel_rfl) rfl rfl ⟨cl_ ag 0,cl_ ag 1,cl_ ag 2,cl_ aa 0,cl_ aa 1,cl_ aa 2,(cb_ HB bI),(cb_ HB bJ),(cb_ HB bK),(cb_ HB bL)⟩ (fun hHeld=>?_);refine with_tabW spec_l11Kept.tab12 spec_l11Kept.bits12 (fun HT_ HW_=>?_);generalize wr.drew=jN at ao ac aa ag aj HB bC bD bg bh bi bj hHeld ⊢;refine py_ HT_ 0 39 ?_
                 refine py_ HT_ 2 41 ?_
                 refine py_ HT_ 5 44 ?_
                 refine py_ HT_ 7 46 ?_
                 refine py_ HT_ 10 49 ?_
                 refine ty_ HT_ HW_ 1 40 rfl hHeld (by rintro w' ⟨s0,s1,s2,s3,s4,s5,s6,s7,s8,s9⟩;go_simp;with_reducible rfl) ?_
                 refine py_ HT_ 3 42 ?_
                 refine ty_ HT_ HW_ 4 43 rfl hHeld (by rintro w' ⟨s0,s1,s2,s3,s4,s5,s6,s7,s8,s9⟩;go_simp;with_reducible rfl) ?_
                 refine ty_ HT_ HW_ 6 45 rfl hHeld (by rintro w' ⟨s0,s1,s2,s3,s4,s5,s6,s7,s8,s9⟩;go_simp;with_reducible rfl) ?_
                 refine py_ HT_ 8 47 ?_
                 refine ty_ HT_ HW_ 9 48 rfl hHeld (by rintro w' ⟨s0,s1,s2,s3,s4,s5,s6,s7,s8,s9⟩;go_simp;with_reducible rfl) ?_
                 refine py_ HT_ 11 50 ?_
                 refine ty_ HT_ HW_ 12 51 rfl hHeld (by rintro w' ⟨s0,s1,s2,s3,s4,s5,s6,s7,s8,s9⟩;go_simp;with_reducible rfl) ?_
                 refine oy_ HT_ 13 (some 52) (fun K hK=>?_);refine gs_ Tryd.func41 #[.slice b3 (rd_L7 aH ap).length b7,.agg #[.int .i64 ((rd_T53 (rd_L7 ai ae) au).f0),.int .i64 ((rd_T53 (rd_L7 ai ae) au).f1)]] (h:=?_);with_reducible refine(spec_l10Find.calls k3 _ _ (rd_L7 aH ap) ((rd_T53 (rd_L7 ai ae) au).f0) ((rd_T53 (rd_L7 ai ae) au).f1) cH _ ?cV ?cW A23.out).mono ?_
                 (case cV=>exact sq_c (Kd.C_below bC.out HB.out))
                 (case cW=>exact b9.out)
                 rintro e jJ ⟨rfl,hb⟩;refine⟨_,rfl,?_⟩;replace ao:=am_ (Kd.N_below (by(with_reducible repeat(first|apply Kd.N_alloc|apply Kd.N_drewN|apply Kd.N_drew));exact ao.out) hb);replace ac:=rb_ ac hb;replace aa:=bb_ aa hb;replace ag:=bb_ ag hb;replace aj:=bb_ aj hb;replace HB:=hb3_ HB hb ay aD a9
                 (try clear hb)
                 (try clear hb2)
                 (try clear hk)
                 (try clear hi)
                 refine hK.out _ _ ⟨cl_ ag 0,cl_ ag 1,cl_ ag 2,cl_ aa 0,cl_ aa 1,cl_ aa 2,(cb_ HB bI),(cb_ HB bJ),(cb_ HB bK),(cb_ HB bL)⟩ (fun hHeld=>?_);clear hK K;refine norm_y 52 (h:=?_)
                 refine py_ HT_ 14 53 ?_
                 refine done_ (done_of HT_.out (by kernel_rfl)) ?_
                 try go_wp2
                 replace ao:=am_ (Kd.N_drew ao.out);replace ac:=rd_ ac;replace aa:=bd_ aa;replace ag:=bd_ ag;replace aj:=bd_ aj;replace HB:=hd_ HB;have eh:0≤(ae:Int):=sq_dec;have ek:ae<(ai.length:Int):=sq_dec;obtain⟨ey,gR,dZ,gT,bU,hl167_0,hi167_0⟩:=at_L7 bA.out ae eh ek;have bR:=bU;obtain rfl:ba=ey:=(by injection gT);replace bU:=cb_ HB bU;have cJ:=am_ hi167_0;have eQ:=am_ hl167_0;clear hi167_0 hl167_0;replace eh:=eq_true eh;replace ek:=eq_true ek;have ej:0≤(au:Int):=sq_dec;have el:au<((rd_L7 ai ae).length:Int):=sq_dec;obtain⟨cK,gU,bV,bW⟩:=at_T53 cJ.out au ej el;have bT:=bW;have bS:=bV;cases gU;replace bV:=cb_ HB bV;replace bW:=cb_ HB bW;replace ej:=eq_true ej;replace el:=eq_true el;refine start_ (n:=14) (S:=fun w'=>w'.cell? ⟨aC,0,none⟩=some (.int .i64 ae)∧w'.cell? ⟨aC,1,none⟩=some (.int .i64 ap)∧w'.cell? ⟨aC,2,none⟩=some (bk)∧w'.cell? ⟨ar,0,none⟩=some (.slice (some ba) ai.length bF)∧w'.cell? ⟨ar,1,none⟩=some (.slice bw aT.length bG)∧w'.cell? ⟨ar,2,none⟩=some (.slice bx aU.length bH)∧w'.cell? (ba.add (ae).toNat)=some (.slice (some cK) (rd_L7 ai ae).length dZ)∧w'.cell? (cK.add ((au).toNat*2))=some (.int .i64 ((rd_T53 (rd_L7 ai ae) au).f0))∧w'.cell? ⟨(cK.add ((au).toNat*2)).block,(cK.add ((au).toNat*2)).off+1,none⟩=some (.int .i64 ((rd_T53 (rd_L7 ai ae) au).f1))) (ds:=[13]) #[false,false,false,false,false,false,false,false,false,false,false,false,false,false] (by kernel_rfl) rfl rfl ⟨cl_ aj 0,cl_ aj 1,cl_ aj 2,cl_ aa 0,cl_ aa 1,cl_ aa 2,(cb_ HB bR),(cb_ HB bS),(cb_ HB bT)⟩ (fun hHeld=>?_);refine with_tabW spec_l11Kept.tab13 spec_l11Kept.bits13 (fun HT_ HW_=>?_);generalize jJ.drew=jO at ao ac aa ag aj HB cJ bU bV bW hHeld ⊢;refine py_ HT_ 0 54 ?_
                 refine py_ HT_ 2 56 ?_
                 refine py_ HT_ 4 58 ?_
                 refine py_ HT_ 7 61 ?_
                 refine ty_ HT_ HW_ 1 55 rfl hHeld (by rintro w' ⟨s0,s1,s2,s3,s4,s5,s6,s7,s8⟩;go_simp;with_reducible rfl) ?_
                 refine ty_ HT_ HW_ 3 57 rfl hHeld (by rintro w' ⟨s0,s1,s2,s3,s4,s5,s6,s7,s8⟩;go_simp;with_reducible rfl) ?_
                 refine py_ HT_ 5 59 ?_
                 refine ty_ HT_ HW_ 6 60 rfl hHeld (by rintro w' ⟨s0,s1,s2,s3,s4,s5,s6,s7,s8⟩;go_simp;with_reducible rfl) ?_
                 refine py_ HT_ 8 62 ?_
                 refine ty_ HT_ HW_ 9 63 rfl hHeld (by rintro w' ⟨s0,s1,s2,s3,s4,s5,s6,s7,s8⟩;go_simp;with_reducible rfl) ?_
                 refine oy_ HT_ 10 (some 64) (fun K hK=>?_);refine value_ (w1:=?_) (v:=?_) (by rfl) rfl ?_ ?_;rotate_left 2
                 ·
                  go_simp
                  constructor
                  ·
                   rfl
                  ·
                   rfl
                 refine hK.out _ _ ⟨(blk_cell (blk_alloc aj.out _) 0).trans rfl,(blk_cell (blk_alloc aj.out _) 1).trans rfl,(blk_cell (blk_alloc aj.out _) 2).trans rfl,(blk_cell (blk_alloc aa.out _) 0).trans rfl,(blk_cell (blk_alloc aa.out _) 1).trans rfl,(blk_cell (blk_alloc aa.out _) 2).trans rfl,(World.cell?_alloc_lt _ _ _ (World.block_lt_of_cell? _ _ (cb_ HB bR))).trans (cb_ HB bR),(World.cell?_alloc_lt _ _ _ (World.block_lt_of_cell? _ _ (cb_ HB bS))).trans (cb_ HB bS),(World.cell?_alloc_lt _ _ _ (World.block_lt_of_cell? _ _ (cb_ HB bT))).trans (cb_ HB bT)⟩ (fun hHeld=>?_);clear hK K;refine norm_y 64 (h:=?_)
                 refine oy_ HT_ 11 (some 65) (fun K hK=>?_);refine Kd.R_append_step k53 (w0:=w) w.heap.size (by rfl) (.tmp 55) (.tmp 64) 50 53 (.agg #[(.int .i64 0),(.int .i64 0)]) 16 rfl Tryd.underlying50 info53 rfl (by decide) (by omega) bk af (⟨(rd_T53 (rd_L7 ai ae) au).f0,(rd_T53 (rd_L7 ai ae) au).f1⟩:S53) [.int .i64 ((rd_T53 (rd_L7 ai ae) au).f0),.int .i64 ((rd_T53 (rd_L7 ai ae) au).f1)] (fun k_=>(w.heap.size≤k_)) (fun _=>False) rfl rfl ?aP (fun _ hk=>hk.elim) ?aF ?aO ?aB ?aS ?aL ?_
                 (case aP=>exact k53_mkM _ _ _ (⟨(rd_T53 (rd_L7 ai ae) au).f0,(rd_T53 (rd_L7 ai ae) au).f1⟩:S53))
                 (case aB=>exact(sq_below3 HB.out ay.out aD.out a9.out))
                 (case aF=>exact(fun k_ hk=>(Nat.le_trans (below_size (sq_below3 HB.out ay.out aD.out a9.out)) hk)))
                 (case aO=>exact(sq_row ac.out))
                 (case aS=>exact(below_size (sq_below3 HB.out ay.out aD.out a9.out)))
                 (case aL=>have:=eq.out;omega)
                 intro v170 jK ho hb hg hat;rw [← ev.out]at ho;replace ao:=am_ (Kd.N_afterv (ok:=(fun k_=>(w.heap.size≤k_)∧k_≠ar∧k_≠aw∧k_≠aC)) (by(with_reducible repeat(first|apply Kd.N_alloc|apply Kd.N_drewN|apply Kd.N_drew));exact Kd.N_mono ao.out (fun _ hk=>⟨⟨hk.1,⟨hk.2.2.1,⟨hk.2.2.2.1,hk.2.2.2.2⟩⟩⟩,hk.2.1⟩)) hg hat);replace aa:=bg_ aa ac hg;replace ag:=bg_ ag ac hg;replace aj:=bg_ aj ac hg;replace HB:=am_ hb;have dD:=am_ ho;clear ac;clear ho hb hg hat;obtain⟨dX,d7,eI⟩:=Kd.R_slice dD.out
                 (first|subst eI|(injection eI with f1_ f2_ f3_;have f4_:=f1_.symm;have f5_:=f3_.symm;clear f1_ f2_ f3_;subst f4_;subst f5_))
                 refine hK.out _ _ ⟨cl_ aj 0,cl_ aj 1,cl_ aj 2,cl_ aa 0,cl_ aa 1,cl_ aa 2,(cb_ HB bR),(cb_ HB bS),(cb_ HB bT)⟩ (fun hHeld=>?_);clear hK K;refine norm_y 65 (h:=?_)
                 refine py_ HT_ 12 66 ?_
                 refine ly_ HT_ 13 none (fun K hK=>?_);have jH:jK.cell? ⟨aC,2,none⟩=some (bk):=(blk_cell aj.out 2).trans rfl;have iH:=blk_frozen aj.out 2;have gN:=aG.out;have gO:=aM.out;have gL:=aN.out;have gM:=bn.out;refine skip_ (w1:=?_) (by rfl) rfl ?_ ?_;rotate_left
                 ·
                  go_simp;rfl
                 refine hK.out _ _ ?_;clear hK K;refine done_ (done_of HT_.out (by kernel_rfl)) ?_
                 try go_wp2
                 go_roundg k3
                 case measure=>have:=HK1.out;have:=HK2.out;have:=HK3.out;omega
                 case rel=>exact⟨(wrap64 (au+1)),(cX),(.slice dX cX.length d7),sr_,H',⟨by have:=HK1.out;have:=HK2.out;have:=HK3.out;omega⟩,⟨by(with_reducible repeat(first|apply Kd.N_alloc|apply Kd.N_drewN|apply Kd.N_drew));exact Kd.N_mono (Kd.N_far (p:=⟨aC,2,none⟩) (Kd.N_mono ao.out (fun k_ hk=>(⟨hk,hk.1.2.2.2⟩:_∧k_≠aC))) (fun _ hk=>hk.2) (.slice dX cX.length d7)) (fun _ hk=>⟨hk.1.1.1,⟨hk.1.2,⟨hk.1.1.2.1,⟨hk.1.1.2.2.1,hk.1.1.2.2.2⟩⟩⟩⟩)⟩,⟨by(with_reducible repeat(first|apply Kd.R_alloc|apply Kd.R_drewN|apply Kd.R_drew));exact Kd.R_mono (Kd.R_far (p:=⟨aC,2,none⟩) (Kd.R_types dD.out aj.out (by decide)) (fun _ hk=>hk.2) (.slice dX cX.length d7)) (fun _ hk=>hk.1)⟩,bf_ aa aG,bf_ ag aM,⟨by(with_reducible repeat(first|refine blk_drewN ?_ _|refine blk_drew ?_|refine blk_alloc ?_ _));refine blk_put (cs:=#[.int .i64 ae,.int .i64 ap,bk]) ?_ 2 _ rfl;(with_reducible repeat(first|refine blk_drewN ?_ _|refine blk_drew ?_|refine blk_alloc ?_ _));exact aj.out⟩,⟨sq_below3 HB.out ay.out aD.out a9.out⟩⟩
                ·
                 rw [if_neg c25]at H;exact absurd H (by simp)
               ·
                rw [if_neg c24]at H;have eA:=decide_eq_false (p:=0≤cH) c24;clear c24;have H':=am_ H;clear H;have iN:=aI.out;have jc:=aK.out;have iO:=aG.out;have jd:=aN.out;obtain⟨eU,eV,eW,fL,fM,fN⟩:=cz3_ aa;have bo:0≤(ae:Int):=sq_dec;have bp:ae<(ai.length:Int):=sq_dec;obtain⟨ba,bZ,b6,b8,aA,hl162_0,hi162_0⟩:=at_L7 bA.out ae bo bp;cases b8;replace aA:=cb_ HB aA;have bB:=am_ hi162_0;have bz:=am_ hl162_0;clear hi162_0 hl162_0;replace bo:=eq_true bo;replace bp:=eq_true bp
                try go_wp2
                replace ao:=am_ (Kd.N_drew ao.out);replace ac:=rd_ ac;replace aa:=bd_ aa;replace ag:=bd_ ag;replace aj:=bd_ aj;replace HB:=hd_ HB;have cA:0≤(ap:Int):=sq_dec;have cD:ap<(aH.length:Int):=sq_dec;obtain⟨ch,b3,b7,d9,bg,hl163_0,hi163_0⟩:=at_L7 dE.out ap cA cD;have bI:=bg;cases d9;replace bg:=cb_ HB bg;have bC:=am_ hi163_0;have b9:=am_ hl163_0;clear hi163_0 hl163_0;replace cA:=eq_true cA;replace cD:=eq_true cD;have cB:0≤(ae:Int):=sq_dec;have cF:ae<(ai.length:Int):=sq_dec;obtain⟨cN,dV,cy,ec,bh,hl164_0,hi164_0⟩:=at_L7 bA.out ae cB cF;have bJ:=bh;obtain rfl:ba=cN:=(by injection ec);replace bh:=cb_ HB bh;have bD:=am_ hi164_0;have da:=am_ hl164_0;clear hi164_0 hl164_0;replace cB:=eq_true cB;replace cF:=eq_true cF;have cC:0≤(au:Int):=sq_dec;have cG:au<((rd_L7 ai ae).length:Int):=sq_dec;obtain⟨bE,ed,bi,bj⟩:=at_T53 bD.out au cC cG;have bL:=bj;have bK:=bi;cases ed;replace bi:=cb_ HB bi;replace bj:=cb_ HB bj;replace cC:=eq_true cC;replace cG:=eq_true cG;refine start_ (n:=15) (S:=fun w'=>w'.cell? ⟨aw,0,none⟩=some (.slice (some ch) aH.length bO)∧w'.cell? ⟨aw,1,none⟩=some (.slice bM aZ.length bP)∧w'.cell? ⟨aw,2,none⟩=some (.slice bN a8.length bQ)∧w'.cell? ⟨ar,0,none⟩=some (.slice (some ba) ai.length bF)∧w'.cell? ⟨ar,1,none⟩=some (.slice bw aT.length bG)∧w'.cell? ⟨ar,2,none⟩=some (.slice bx aU.length bH)∧w'.cell? (ch.add (ap).toNat)=some (.slice b3 (rd_L7 aH ap).length b7)∧w'.cell? (ba.add (ae).toNat)=some (.slice (some bE) (rd_L7 ai ae).length cy)∧w'.cell? (bE.add ((au).toNat*2))=some (.int .i64 ((rd_T53 (rd_L7 ai ae) au).f0))∧w'.cell? ⟨(bE.add ((au).toNat*2)).block,(bE.add ((au).toNat*2)).off+1,none⟩=some (.int .i64 ((rd_T53 (rd_L7 ai ae) au).f1))) (ds:=[]) #[false,false,false,false,false,false,false,false,false,false,false,false,false,false,false] (by kernel_rfl) rfl rfl ⟨cl_ ag 0,cl_ ag 1,cl_ ag 2,cl_ aa 0,cl_ aa 1,cl_ aa 2,(cb_ HB bI),(cb_ HB bJ),(cb_ HB bK),(cb_ HB bL)⟩ (fun hHeld=>?_);refine with_tabW spec_l11Kept.tab12 spec_l11Kept.bits12 (fun HT_ HW_=>?_);generalize wr.drew=jP at ao ac aa ag aj HB bC bD bg bh bi bj hHeld ⊢;refine py_ HT_ 0 39 ?_
                refine py_ HT_ 2 41 ?_
                refine py_ HT_ 5 44 ?_
                refine py_ HT_ 7 46 ?_
                refine py_ HT_ 10 49 ?_
                refine ty_ HT_ HW_ 1 40 rfl hHeld (by rintro w' ⟨s0,s1,s2,s3,s4,s5,s6,s7,s8,s9⟩;go_simp;with_reducible rfl) ?_
                refine py_ HT_ 3 42 ?_
                refine ty_ HT_ HW_ 4 43 rfl hHeld (by rintro w' ⟨s0,s1,s2,s3,s4,s5,s6,s7,s8,s9⟩;go_simp;with_reducible rfl) ?_
                refine ty_ HT_ HW_ 6 45 rfl hHeld (by rintro w' ⟨s0,s1,s2,s3,s4,s5,s6,s7,s8,s9⟩;go_simp;with_reducible rfl) ?_
                refine py_ HT_ 8 47 ?_
                refine ty_ HT_ HW_ 9 48 rfl hHeld (by rintro w' ⟨s0,s1,s2,s3,s4,s5,s6,s7,s8,s9⟩;go_simp;with_reducible rfl) ?_
                refine py_ HT_ 11 50 ?_
                refine ty_ HT_ HW_ 12 51 rfl hHeld (by rintro w' ⟨s0,s1,s2,s3,s4,s5,s6,s7,s8,s9⟩;go_simp;with_reducible rfl) ?_
                refine oy_ HT_ 13 (some 52) (fun K hK=>?_);refine gs_ Tryd.func41 #[.slice b3 (rd_L7 aH ap).length b7,.agg #[.int .i64 ((rd_T53 (rd_L7 ai ae) au).f0),.int .i64 ((rd_T53 (rd_L7 ai ae) au).f1)]] (h:=?_);with_reducible refine(spec_l10Find.calls k3 _ _ (rd_L7 aH ap) ((rd_T53 (rd_L7 ai ae) au).f0) ((rd_T53 (rd_L7 ai ae) au).f1) cH _ ?cV ?cW A23.out).mono ?_
                (case cV=>exact sq_c (Kd.C_below bC.out HB.out))
                (case cW=>exact b9.out)
                rintro e jQ ⟨rfl,hb⟩;refine⟨_,rfl,?_⟩;replace ao:=am_ (Kd.N_below (by(with_reducible repeat(first|apply Kd.N_alloc|apply Kd.N_drewN|apply Kd.N_drew));exact ao.out) hb);replace ac:=rb_ ac hb;replace aa:=bb_ aa hb;replace ag:=bb_ ag hb;replace aj:=bb_ aj hb;replace HB:=hb3_ HB hb ay aD a9
                (try clear hb)
                (try clear hb2)
                (try clear hk)
                (try clear hi)
                refine hK.out _ _ ⟨cl_ ag 0,cl_ ag 1,cl_ ag 2,cl_ aa 0,cl_ aa 1,cl_ aa 2,(cb_ HB bI),(cb_ HB bJ),(cb_ HB bK),(cb_ HB bL)⟩ (fun hHeld=>?_);clear hK K;refine norm_y 52 (h:=?_)
                refine py_ HT_ 14 53 ?_
                refine done_ (done_of HT_.out (by kernel_rfl)) ?_
                try go_wp2
                go_roundg k3
                case measure=>have:=HK1.out;have:=HK2.out;have:=HK3.out;omega
                case rel=>exact⟨(wrap64 (au+1)),(af),(bk),sr_,H',⟨by have:=HK1.out;have:=HK2.out;have:=HK3.out;omega⟩,⟨by(with_reducible repeat(first|apply Kd.N_alloc|apply Kd.N_drewN|apply Kd.N_drew));exact ao.out⟩,⟨by(with_reducible repeat(first|apply Kd.R_alloc|apply Kd.R_drewN|apply Kd.R_drew));exact ac.out⟩,bk_ aa,bk_ ag,bk_ aj,⟨sq_below3 HB.out ay.out aD.out a9.out⟩⟩
              ·
               rw [if_neg c22]at H;exact absurd H (by simp)
             ·
              rw [if_neg c21]at H;exact absurd H (by simp)
            ·
             rw [if_neg c20]at H;exact absurd H (by simp)
           ·
            rw [if_neg c19]at H;have ez:=decide_eq_false (p:=au<((rd_L7 ai ae).length:Int)) c19;clear c19
            by_cases c40:(af.length:Int) > 0
            ·
             rw [if_pos c40]at H;have eB:=decide_eq_true (p:=0<(af.length:Int)) c40;have eC:decide (0<af.length)=true:=decide_eq_true (by omega);clear c40
             by_cases c41:(az.length:Int)=0
             ·
              rw [if_pos c41]at H;have eD:((az.length:Int) == 0)=true:=beq_iff_eq.mpr c41;have eE:((az.length:Int) != 0)=false:=bne_eq_false_iff_eq.mpr c41;clear c41
              by_cases c42:az.length<3518437208883
              ·
               rw [if_pos c42]at H;have er:=am_ c42;clear c42;obtain⟨eN,cq⟩:∃ y_:List (S98),y_=(az++[(⟨ae,ap,af⟩:S98)]):=⟨_,rfl⟩;replace H:(spec_l11Kept.l1 k3 eN ae (wrap64 (ap+1)) ai aT aU aH aZ a8)=some r:=by first|(rw [cq];with_reducible exact H)|(have H2_:=(Option.bind_some _ _).symm.trans H;rw [cq];with_reducible exact H2_)|(have H2_:=(Option.bind_some _ _).symm.trans H;with_reducible exact H2_)|with_reducible exact H|(rw [cq];exact H)|exact H
               have ew:=am_ cq;clear cq;have H':=am_ H;clear H;have iP:=aI.out;have je:=aK.out;have iQ:=aG.out;have jf:=aN.out;obtain⟨eX,eY,eZ,fO,fP,fQ⟩:=cz3_ aa;have bo:0≤(ae:Int):=sq_dec;have bp:ae<(ai.length:Int):=sq_dec;obtain⟨ba,bZ,b6,b8,aA,hl162_0,hi162_0⟩:=at_L7 bA.out ae bo bp;cases b8;replace aA:=cb_ HB aA;have bB:=am_ hi162_0;have bz:=am_ hl162_0;clear hi162_0 hl162_0;replace bo:=eq_true bo;replace bp:=eq_true bp;have iR:=bn.out;have jg:=aM.out;obtain⟨e7,e8,fa,fR,fS,fT⟩:=cz3_ aj;obtain⟨dY,d8,gV⟩:=Kd.R_slice ac.out;subst gV;obtain⟨cY,dd,gW⟩:=Kd.N_slice ao.out;subst gW
               go_wp2_with (first|((with_reducible refine gate_builtin (b:=.append) (xs:=#[.tmp 87,.tmp 89]) rfl ?_);(try(refine gate_guard (by rfl) ?_;dsimp only));at_builtin;refine Kd.N_append k98 (w0:=w) w.heap.size rfl (.tmp 87) (.tmp 89) 77 98 (.agg #[(.int .i64 0),(.int .i64 0),(.slice none 0 0)]) 40 rfl Tryd.underlying77 info98 rfl (by decide) (by omega) (.slice cY az.length dd) az (⟨ae,ap,af⟩:S98) [.int .i64 ae,.int .i64 ap,.slice dY af.length d8] (fun k_=>(w.heap.size≤k_)∧k_≠ar∧k_≠aw∧k_≠aC) (fun k_=>((fun k_=>(w.heap.size≤k_)∧k_≠ar∧k_≠aw∧k_≠aC)) k_∧some k_≠(.slice cY az.length dd:Value).ownBlock) rfl rfl ?aP (fun _ hk=>hk) ?aF ?aO ?aB ?aS ?aL ?_;(case aP=>exact(k98_mkF _ _ (⟨ae,ap,af⟩:S98) (Kd.R_reads' (Kd.R_mono (ok':=(fun k_=>((fun k_=>(w.heap.size≤k_)∧k_≠ar∧k_≠aw∧k_≠aC)) k_∧some k_≠(.slice cY az.length dd:Value).ownBlock)) (Kd.R_types (Kd.R_types (Kd.R_types (Kd.R_apart' (ac.out) (Kd.N_typed ao.out) (by decide)) aa.out (by decide)) ag.out (by decide)) aj.out (by decide)) (fun k_ hk=>⟨⟨hk.1.1.1.1,⟨hk.1.1.2,⟨hk.1.2,hk.2⟩⟩⟩,hk.1.1.1.2⟩))).2.1 (Kd.R_F (Kd.R_mono (ok':=(fun k_=>((fun k_=>(w.heap.size≤k_)∧k_≠ar∧k_≠aw∧k_≠aC)) k_∧some k_≠(.slice cY az.length dd:Value).ownBlock)) (Kd.R_types (Kd.R_types (Kd.R_types (Kd.R_apart' (ac.out) (Kd.N_typed ao.out) (by decide)) aa.out (by decide)) ag.out (by decide)) aj.out (by decide)) (fun k_ hk=>⟨⟨hk.1.1.1.1,⟨hk.1.1.2,⟨hk.1.2,hk.2⟩⟩⟩,hk.1.1.1.2⟩)))));(case aB=>exact(sq_below3 HB.out ay.out aD.out a9.out));(case aF=>exact(fun k_ hk=>⟨(Nat.le_trans (below_size (sq_below3 HB.out ay.out aD.out a9.out)) hk),Kd.freshB (g:=ar) (o:=.cells #[.slice (some ba) ai.length bF,.slice bw aT.length bG,.slice bx aU.length bH] 32 (0,0)) (sq_blk aa.out) k_ hk,Kd.freshB (g:=aw) (o:=.cells #[.slice b4 aH.length bO,.slice bM aZ.length bP,.slice bN a8.length bQ] 32 (0,0)) (sq_blk ag.out) k_ hk,Kd.freshB (g:=aC) (o:=.cells #[.int .i64 ae,.int .i64 ap,.slice dY af.length d8] 98 (0,0)) (sq_blk aj.out) k_ hk⟩));(case aO=>exact(by(with_reducible repeat(first|apply Kd.N_alloc|apply Kd.N_drewN|apply Kd.N_drew));exact Kd.N_mono ao.out (fun _ hk=>⟨hk.1,⟨hk.2.2.1,⟨hk.2.2.2.1,hk.2.2.2.2⟩⟩⟩)));(case aS=>exact(below_size (sq_below3 HB.out ay.out aD.out a9.out)));(case aL=>have:=er.out;omega);intro v173 jR ho hb hg hat;rw [← ew.out]at ho;replace aa:=am_ (blk_grown (g:=ar) (o:=.cells #[.slice (some ba) ai.length bF,.slice bw aT.length bG,.slice bx aU.length bH] 32 (0,0)) (sq_blk aa.out) hg (Kd.N_ne ao.out aa.out (by decide)));replace ag:=am_ (blk_grown (g:=aw) (o:=.cells #[.slice b4 aH.length bO,.slice bM aZ.length bP,.slice bN a8.length bQ] 32 (0,0)) (sq_blk ag.out) hg (Kd.N_ne ao.out ag.out (by decide)));replace aj:=am_ (blk_grown (g:=aC) (o:=.cells #[.int .i64 ae,.int .i64 ap,.slice dY af.length d8] 98 (0,0)) (sq_blk aj.out) hg (Kd.N_away ao.out (fun _ hk=>hk.2.2.2.2)));replace HB:=am_ hb;have eo:=am_ ho;clear ao ac;clear ho hb hg hat))
               go_roundg k3
               case measure=>have:=HK1.out;have:=HK2.out;have:=HK3.out;omega
               case rel=>exact⟨(eN),(wrap64 (ap+1)),sr_,H',⟨by have:=HK1.out;have:=HK2.out;have:=HK3.out;omega⟩,⟨by(with_reducible repeat(first|apply Kd.N_alloc|apply Kd.N_drewN|apply Kd.N_drew));exact Kd.N_mono eo.out (fun _ hk=>⟨hk.1,⟨hk.2.1,hk.2.2.1⟩⟩)⟩,bk_ aa,bk_ ag,⟨sq_below3 HB.out ay.out aD.out a9.out⟩⟩
              ·
               rw [if_neg c42]at H;exact absurd H (by simp)
             ·
              rw [if_neg c41]at H;have eD:((az.length:Int) == 0)=false:=beq_eq_false_iff_ne.mpr c41;have eE:((az.length:Int) != 0)=true:=bne_iff_ne.mpr c41;have iA:¬(az=[]):=fun h_=>c41 (by rw [h_];rfl);obtain⟨bq,cU⟩:∃ j_:Int,(wrap64 ((az.length:Int)-1))=j_:=⟨_,rfl⟩;replace H:(if 0≤(bq)then(if(bq)<(az.length:Int)then(if ap≥((rd_T98 az (bq)).f1)then(if az.length<3518437208883 then(spec_l11Kept.l1 k3 (az++[(⟨ae,ap,af⟩:S98)]) ae (wrap64 (ap+1)) ai aT aU aH aZ a8)else(none))else(spec_l11Kept.l1 k3 az ae (wrap64 (ap+1)) ai aT aU aH aZ a8))else(none))else(none))=some r:=by first|(rw [cU]at H;exact H)|(simp only [cU]at H ⊢;exact H)
              have hji51w:(IntKind.i64.wrap ((az.length:Int)-1))=bq:=(i64_w _).trans cU
              by_cases c52:0≤(bq)
              ·
               rw [if_pos c52]at H;have iB:=decide_eq_true (p:=0≤(bq)) c52;clear c52
               by_cases c53:(bq)<(az.length:Int)
               ·
                rw [if_pos c53]at H;have iC:=decide_eq_true (p:=(bq)<(az.length:Int)) c53;clear c53
                by_cases c54:ap≥((rd_T98 az (bq)).f1)
                ·
                 rw [if_pos c54]at H;have eF:=decide_eq_true (p:=((rd_T98 az (bq)).f1)≤ap) c54;clear c54
                 by_cases c55:az.length<3518437208883
                 ·
                  rw [if_pos c55]at H;have es:=am_ c55;clear c55;obtain⟨eO,cr⟩:∃ y_:List (S98),y_=(az++[(⟨ae,ap,af⟩:S98)]):=⟨_,rfl⟩;replace H:(spec_l11Kept.l1 k3 eO ae (wrap64 (ap+1)) ai aT aU aH aZ a8)=some r:=by first|(rw [cr];with_reducible exact H)|(have H2_:=(Option.bind_some _ _).symm.trans H;rw [cr];with_reducible exact H2_)|(have H2_:=(Option.bind_some _ _).symm.trans H;with_reducible exact H2_)|with_reducible exact H|(rw [cr];exact H)|exact H
                  have ex:=am_ cr;clear cr;have H':=am_ H;clear H;have iS:=aI.out;have jh:=aK.out;have iT:=aG.out;have jj:=aN.out;obtain⟨fb,fc,fd,fU,fV,fW⟩:=cz3_ aa;have bo:0≤(ae:Int):=sq_dec;have bp:ae<(ai.length:Int):=sq_dec;obtain⟨ba,bZ,b6,b8,aA,hl162_0,hi162_0⟩:=at_L7 bA.out ae bo bp;cases b8;replace aA:=cb_ HB aA;have bB:=am_ hi162_0;have bz:=am_ hl162_0;clear hi162_0 hl162_0;replace bo:=eq_true bo;replace bp:=eq_true bp;have iU:=bn.out;have jk:=aM.out;obtain⟨fe,ff,fg,fX,fY,fZ⟩:=cz3_ aj;obtain⟨cZ,de,gX⟩:=Kd.R_slice ac.out;subst gX;obtain⟨jv,df,gY⟩:=Kd.N_slice ao.out;subst gY;have cd:0≤((bq):Int):=sq_dec;have cf:(bq)<(az.length:Int):=sq_dec;obtain⟨cj,dW,d5,ee,dz,dA,cb,hl175_2,hi175_2⟩:=at_T98 (Kd.N_reads' ao.out).2.2 (bq) cd cf;cases ee;obtain⟨ce175,hce175,hMe175,hcc175⟩:=Kd.N_get ao.out z98 (bq) cd (by first|exact cf|exact sq_dec|(have e_:=(Kd.N_reads' ao.out).1;omega));obtain⟨ua175_2,uc175_2,rfl,ul175_2,ge175_2⟩:=k98_openF hMe175;have hv175_2:=hcc175 2 _ rfl;rw [add_field _ _ 2 (by omega)]at hv175_2;replace hv175_2:=Option.some.inj (hv175_2.symm.trans cb)
                  injection hv175_2 with hva_ hvn_ hvc_
                  rw [hva_]at ge175_2;rw [hvc_]at ul175_2;have HL175_2:=am_ (show Kd.V k53 53 _ w.heap.size _ _ ((rd_T98 az (bq)).f2) from Kd.V_mk ul175_2 ge175_2);clear hva_ hvn_ hvc_ ge175_2 ul175_2 hcc175 hce175;have dc:=am_ hi175_2;have db:=am_ hl175_2;clear hi175_2 hl175_2;replace cd:=eq_true cd;replace cf:=eq_true cf
                  go_wp2_with (first|((with_reducible refine gate_builtin (b:=.append) (xs:=#[.tmp 87,.tmp 89]) rfl ?_);(try(refine gate_guard (by rfl) ?_;dsimp only));at_builtin;refine Kd.N_append k98 (w0:=w) w.heap.size rfl (.tmp 87) (.tmp 89) 77 98 (.agg #[(.int .i64 0),(.int .i64 0),(.slice none 0 0)]) 40 rfl Tryd.underlying77 info98 rfl (by decide) (by omega) (.slice (some cj) az.length df) az (⟨ae,ap,af⟩:S98) [.int .i64 ae,.int .i64 ap,.slice cZ af.length de] (fun k_=>(w.heap.size≤k_)∧k_≠ar∧k_≠aw∧k_≠aC) (fun k_=>((fun k_=>(w.heap.size≤k_)∧k_≠ar∧k_≠aw∧k_≠aC)) k_∧some k_≠(.slice (some cj) az.length df:Value).ownBlock) rfl rfl ?aP (fun _ hk=>hk) ?aF ?aO ?aB ?aS ?aL ?_;(case aP=>exact(k98_mkF _ _ (⟨ae,ap,af⟩:S98) (Kd.R_reads' (Kd.R_mono (ok':=(fun k_=>((fun k_=>(w.heap.size≤k_)∧k_≠ar∧k_≠aw∧k_≠aC)) k_∧some k_≠(.slice (some cj) az.length df:Value).ownBlock)) (Kd.R_types (Kd.R_types (Kd.R_types (Kd.R_apart' (ac.out) (Kd.N_typed ao.out) (by decide)) aa.out (by decide)) ag.out (by decide)) aj.out (by decide)) (fun k_ hk=>⟨⟨hk.1.1.1.1,⟨hk.1.1.2,⟨hk.1.2,hk.2⟩⟩⟩,hk.1.1.1.2⟩))).2.1 (Kd.R_F (Kd.R_mono (ok':=(fun k_=>((fun k_=>(w.heap.size≤k_)∧k_≠ar∧k_≠aw∧k_≠aC)) k_∧some k_≠(.slice (some cj) az.length df:Value).ownBlock)) (Kd.R_types (Kd.R_types (Kd.R_types (Kd.R_apart' (ac.out) (Kd.N_typed ao.out) (by decide)) aa.out (by decide)) ag.out (by decide)) aj.out (by decide)) (fun k_ hk=>⟨⟨hk.1.1.1.1,⟨hk.1.1.2,⟨hk.1.2,hk.2⟩⟩⟩,hk.1.1.1.2⟩)))));(case aB=>exact(sq_below3 HB.out ay.out aD.out a9.out));(case aF=>exact(fun k_ hk=>⟨(Nat.le_trans (below_size (sq_below3 HB.out ay.out aD.out a9.out)) hk),Kd.freshB (g:=ar) (o:=.cells #[.slice (some ba) ai.length bF,.slice bw aT.length bG,.slice bx aU.length bH] 32 (0,0)) (sq_blk aa.out) k_ hk,Kd.freshB (g:=aw) (o:=.cells #[.slice b4 aH.length bO,.slice bM aZ.length bP,.slice bN a8.length bQ] 32 (0,0)) (sq_blk ag.out) k_ hk,Kd.freshB (g:=aC) (o:=.cells #[.int .i64 ae,.int .i64 ap,.slice cZ af.length de] 98 (0,0)) (sq_blk aj.out) k_ hk⟩));(case aO=>exact(by(with_reducible repeat(first|apply Kd.N_alloc|apply Kd.N_drewN|apply Kd.N_drew));exact Kd.N_mono ao.out (fun _ hk=>⟨hk.1,⟨hk.2.2.1,⟨hk.2.2.2.1,hk.2.2.2.2⟩⟩⟩)));(case aS=>exact(below_size (sq_below3 HB.out ay.out aD.out a9.out)));(case aL=>have:=es.out;omega);intro v177 jS ho hb hg hat;rw [← ex.out]at ho;replace aa:=am_ (blk_grown (g:=ar) (o:=.cells #[.slice (some ba) ai.length bF,.slice bw aT.length bG,.slice bx aU.length bH] 32 (0,0)) (sq_blk aa.out) hg (Kd.N_ne ao.out aa.out (by decide)));replace ag:=am_ (blk_grown (g:=aw) (o:=.cells #[.slice b4 aH.length bO,.slice bM aZ.length bP,.slice bN a8.length bQ] 32 (0,0)) (sq_blk ag.out) hg (Kd.N_ne ao.out ag.out (by decide)));replace aj:=am_ (blk_grown (g:=aC) (o:=.cells #[.int .i64 ae,.int .i64 ap,.slice cZ af.length de] 98 (0,0)) (sq_blk aj.out) hg (Kd.N_away ao.out (fun _ hk=>hk.2.2.2.2)));replace HL175_2:=am_ (Kd.V_afterv (ok:=(fun k_=>(w.heap.size≤k_)∧some k_≠(.slice cZ af.length de:Value).ownBlock∧k_≠ar∧k_≠aw∧k_≠aC)) (by(with_reducible repeat(first|apply Kd.V_alloc|apply Kd.V_drewN|apply Kd.V_drew));exact HL175_2.out) hg hat);replace HB:=am_ hb;have ep:=am_ ho;clear ao ac;clear ho hb hg hat))
                  go_roundg k3
                  case measure=>have:=HK1.out;have:=HK2.out;have:=HK3.out;omega
                  case rel=>exact⟨(eO),(wrap64 (ap+1)),sr_,H',⟨by have:=HK1.out;have:=HK2.out;have:=HK3.out;omega⟩,⟨by(with_reducible repeat(first|apply Kd.N_alloc|apply Kd.N_drewN|apply Kd.N_drew));exact Kd.N_mono ep.out (fun _ hk=>⟨hk.1,⟨hk.2.1,hk.2.2.1⟩⟩)⟩,bk_ aa,bk_ ag,⟨sq_below3 HB.out ay.out aD.out a9.out⟩⟩
                 ·
                  rw [if_neg c55]at H;exact absurd H (by simp)
                ·
                 rw [if_neg c54]at H;have eF:=decide_eq_false (p:=((rd_T98 az (bq)).f1)≤ap) c54;clear c54;have H':=am_ H;clear H;have iV:=aI.out;have jl:=aK.out;have iW:=aG.out;have jm:=aN.out;obtain⟨fh,fi,fj,f7,f9,gc⟩:=cz3_ aa;have bo:0≤(ae:Int):=sq_dec;have bp:ae<(ai.length:Int):=sq_dec;obtain⟨ba,bZ,b6,b8,aA,hl162_0,hi162_0⟩:=at_L7 bA.out ae bo bp;cases b8;replace aA:=cb_ HB aA;have bB:=am_ hi162_0;have bz:=am_ hl162_0;clear hi162_0 hl162_0;replace bo:=eq_true bo;replace bp:=eq_true bp;have iX:=bn.out;have jn:=aM.out;obtain⟨fk,fl,fm,ge,gf,gh⟩:=cz3_ aj;obtain⟨jw,jB,gZ⟩:=Kd.R_slice ac.out;subst gZ;obtain⟨jx,jC,hD⟩:=Kd.N_slice ao.out;subst hD;have cd:0≤((bq):Int):=sq_dec;have cf:(bq)<(az.length:Int):=sq_dec;obtain⟨cj,dW,d5,ee,dz,dA,cb,hl175_2,hi175_2⟩:=at_T98 (Kd.N_reads' ao.out).2.2 (bq) cd cf;cases ee;obtain⟨ce175,hce175,hMe175,hcc175⟩:=Kd.N_get ao.out z98 (bq) cd (by first|exact cf|exact sq_dec|(have e_:=(Kd.N_reads' ao.out).1;omega));obtain⟨ua175_2,uc175_2,rfl,ul175_2,ge175_2⟩:=k98_openF hMe175;have hv175_2:=hcc175 2 _ rfl;rw [add_field _ _ 2 (by omega)]at hv175_2;replace hv175_2:=Option.some.inj (hv175_2.symm.trans cb)
                 injection hv175_2 with hva_ hvn_ hvc_
                 rw [hva_]at ge175_2;rw [hvc_]at ul175_2;have HL175_2:=am_ (show Kd.V k53 53 _ w.heap.size _ _ ((rd_T98 az (bq)).f2) from Kd.V_mk ul175_2 ge175_2);clear hva_ hvn_ hvc_ ge175_2 ul175_2 hcc175 hce175;have dc:=am_ hi175_2;have db:=am_ hl175_2;clear hi175_2 hl175_2;replace cd:=eq_true cd;replace cf:=eq_true cf
                 go_wp2
                 go_roundg k3
                 case measure=>have:=HK1.out;have:=HK2.out;have:=HK3.out;omega
                 case rel=>exact⟨(az),(wrap64 (ap+1)),sr_,H',⟨by have:=HK1.out;have:=HK2.out;have:=HK3.out;omega⟩,⟨by(with_reducible repeat(first|apply Kd.N_alloc|apply Kd.N_drewN|apply Kd.N_drew));exact Kd.N_mono ao.out (fun _ hk=>⟨hk.1,⟨hk.2.2.1,hk.2.2.2.1⟩⟩)⟩,bk_ aa,bk_ ag,⟨sq_below3 HB.out ay.out aD.out a9.out⟩⟩
               ·
                rw [if_neg c53]at H;exact absurd H (by simp)
              ·
               rw [if_neg c52]at H;exact absurd H (by simp)
            ·
             rw [if_neg c40]at H;have eB:=decide_eq_false (p:=0<(af.length:Int)) c40;have eC:decide (0<af.length)=false:=decide_eq_false (by omega);clear c40;have H':=am_ H;clear H;have iY:=aI.out;have jo:=aK.out;have iZ:=aG.out;have jp:=aN.out;obtain⟨fo,fp,fq,gi,gj,gl⟩:=cz3_ aa;have bo:0≤(ae:Int):=sq_dec;have bp:ae<(ai.length:Int):=sq_dec;obtain⟨ba,bZ,b6,b8,aA,hl162_0,hi162_0⟩:=at_L7 bA.out ae bo bp;cases b8;replace aA:=cb_ HB aA;have bB:=am_ hi162_0;have bz:=am_ hl162_0;clear hi162_0 hl162_0;replace bo:=eq_true bo;replace bp:=eq_true bp;have i5:=bn.out;have jq:=aM.out;obtain⟨ft,fu,fv,gm,gn,gp⟩:=cz3_ aj;obtain⟨jy,jD,hJ⟩:=Kd.R_slice ac.out;subst hJ
             go_wp2
             go_roundg k3
             case measure=>have:=HK1.out;have:=HK2.out;have:=HK3.out;omega
             case rel=>exact⟨(az),(wrap64 (ap+1)),sr_,H',⟨by have:=HK1.out;have:=HK2.out;have:=HK3.out;omega⟩,⟨by(with_reducible repeat(first|apply Kd.N_alloc|apply Kd.N_drewN|apply Kd.N_drew));exact Kd.N_mono ao.out (fun _ hk=>⟨hk.1,⟨hk.2.2.1,hk.2.2.2.1⟩⟩)⟩,bk_ aa,bk_ ag,⟨sq_below3 HB.out ay.out aD.out a9.out⟩⟩
          ·
           rw [if_neg c18]at H;exact absurd H (by simp)
         ·
          rw [if_neg c17]at H;exact absurd H (by simp)
      ·
       rw [if_neg c10]at H;have dH:=decide_eq_false (p:=ap<(aH.length:Int)) c10;clear c10;have H':=am_ H;clear H;have i6:=aK.out;have jr:=aI.out;obtain⟨fw,fx,fy,gr,gu,gv⟩:=cz3_ ag
       go_wp2
       go_roundg k2
       case measure=>have:=HK1.out;have:=HK2.out;omega
       case rel=>exact⟨(az),(wrap64 (ae+1)),sr_,H',⟨by have:=HK1.out;have:=HK2.out;omega⟩,⟨by(with_reducible repeat(first|apply Kd.N_alloc|apply Kd.N_drewN|apply Kd.N_drew));exact ao.out⟩,bk_ aa,bk_ ag,⟨sq_below2 HB.out ay.out aD.out⟩⟩
   ·
    rw [if_neg c7]at H;have d6:=decide_eq_false (p:=ae<(ai.length:Int)) c7;clear c7
    by_cases c79:(ah.length:Int) > 16
    ·
     rw [if_pos c79]at H;have eG:=decide_eq_true (p:=16<(ah.length:Int)) c79;have eH:decide (16<ah.length)=true:=decide_eq_true (by omega);clear c79;obtain⟨ak,cM⟩:∃ j_:Int,(wrap64 ((ah.length:Int)-1))=j_:=⟨_,rfl⟩;replace H:(if 0≤(ak)then(if(ak)<(ah.length:Int)then(if 15≤(ah.length:Int)then((some (ah.take (15:Int).toNat:List (S98))).bind fun bu=>(if bu.length<3518437208883 then(some (bu++[(⟨(rd_T98 ah (ak)).f0,(rd_T98 ah (ak)).f1,(rd_T98 ah (ak)).f2⟩:S98)]))else(none)))else(none))else(none))else(none))=some r:=by first|(rw [cM]at H;exact H)|(simp only [cM]at H ⊢;exact H)
     have hji80w:(IntKind.i64.wrap ((ah.length:Int)-1))=ak:=(i64_w _).trans cM
     by_cases c81:0≤(ak)
     ·
      rw [if_pos c81]at H;have iD:=decide_eq_true (p:=0≤(ak)) c81;clear c81
      by_cases c82:(ak)<(ah.length:Int)
      ·
       rw [if_pos c82]at H;have iE:=decide_eq_true (p:=(ak)<(ah.length:Int)) c82;clear c82
       by_cases c83:15≤(ah.length:Int)
       ·
        rw [if_pos c83]at H;have iF:=eq_true c83;have iG:=decide_eq_true (p:=15≤(ah.length:Int)) c83;clear c83;obtain⟨bu,cl⟩:∃ y_:List (S98),y_=(ah.take (15:Int).toNat):=⟨_,rfl⟩;replace H:(if bu.length<3518437208883 then(some (bu++[(⟨(rd_T98 ah (ak)).f0,(rd_T98 ah (ak)).f1,(rd_T98 ah (ak)).f2⟩:S98)]))else(none))=some r:=by first|(rw [cl];with_reducible exact H)|(have H2_:=(Option.bind_some _ _).symm.trans H;rw [cl];with_reducible exact H2_)|(have H2_:=(Option.bind_some _ _).symm.trans H;with_reducible exact H2_)|with_reducible exact H|(rw [cl];exact H)|exact H
        have dG:=am_ cl;clear cl
        by_cases c84:bu.length<3518437208883
        ·
         rw [if_pos c84]at H;have et:=am_ c84;clear c84;obtain⟨ia,cn⟩:∃ y_:List (S98),y_=(bu++[(⟨(rd_T98 ah (ak)).f0,(rd_T98 ah (ak)).f1,(rd_T98 ah (ak)).f2⟩:S98)]):=⟨_,rfl⟩;replace H:(some ia)=some r:=by first|(rw [cn];with_reducible exact H)|(have H2_:=(Option.bind_some _ _).symm.trans H;rw [cn];with_reducible exact H2_)|(have H2_:=(Option.bind_some _ _).symm.trans H;with_reducible exact H2_)|with_reducible exact H|(rw [cn];exact H)|exact H
         have eu:=am_ cn;clear cn;obtain rfl:=Option.some.inj H;obtain⟨fz,fA,fB,gw,gy,gz⟩:=cz3_ aa;obtain⟨jz,cz,hU⟩:=Kd.N_slice ao.out;subst hU;have dB:0≤((ak):Int):=sq_dec;have dC:(ak)<(ah.length:Int):=sq_dec;obtain⟨b5,bc,bf,gS,gP,gQ,dy,hl153_2,hi153_2⟩:=at_T98 (Kd.N_reads' ao.out).2.2 (ak) dB dC;cases gS;obtain⟨ce153,hce153,hMe153,hcc153⟩:=Kd.N_get ao.out z98 (ak) dB (by first|exact dC|exact sq_dec|(have e_:=(Kd.N_reads' ao.out).1;omega));obtain⟨ua153_2,uc153_2,rfl,ul153_2,ge153_2⟩:=k98_openF hMe153;have hv153_2:=hcc153 2 _ rfl;rw [add_field _ _ 2 (by omega)]at hv153_2;replace hv153_2:=Option.some.inj (hv153_2.symm.trans dy)
         injection hv153_2 with hva_ hvn_ hvc_
         rw [hva_]at ge153_2;rw [hvc_]at ul153_2;have HL153_2:=am_ (show Kd.V k53 53 _ w.heap.size _ _ ((rd_T98 ah (ak)).f2) from Kd.V_mk ul153_2 ge153_2);clear hva_ hvn_ hvc_ ge153_2 ul153_2 hcc153 hce153;have ca:=am_ hi153_2;have eP:=am_ hl153_2;clear hi153_2 hl153_2;replace dB:=eq_true dB;replace dC:=eq_true dC
         try go_wp2_with (first|((with_reducible refine gate_dst (N:=10) rfl ?_);(try(refine gate_guard (by rfl) ?_;dsimp only));refine box_y 10 #[.int .i64 0,.int .i64 0,.slice none 0 0] 98 (h:=?_);intro aq hg eL hbox hb;replace ao:=am_ (Kd.N_below (Kd.N_elderB (by(with_reducible repeat(first|apply Kd.N_alloc|apply Kd.N_drewN|apply Kd.N_drew));exact ao.out) aq (Nat.le_of_eq hg.symm)) hb);replace HL153_2:=am_ (Kd.V_below (Kd.V_elderB (by(with_reducible repeat(first|apply Kd.V_alloc|apply Kd.V_drewN|apply Kd.V_drew));exact HL153_2.out) aq (Nat.le_of_eq hg.symm)) hb);replace ca:=am_ (Kd.C_below (by repeat(first|(with_reducible exact ca.out)|(with_reducible refine Kd.C_alloc ?_ _)|(with_reducible refine Kd.C_drewN ?_ _)|(with_reducible refine Kd.C_drew ?_)|exact ca.out)) hb);have aQ:=am_ hbox;have ie:=gz_ hg HB;have cg:=gz_ hg HB;replace HB:=hb_ HB hb;clear hb hbox hg;obtain⟨fC,fD,fE,gE,gG,gH⟩:=cz3_ aQ))
         have n0_:Aside0 (Kd.N k98 98 (((eL.setCell ⟨aq,0,none⟩ (.int .i64 ((rd_T98 ah (ak)).f0))).setCell ⟨aq,1,none⟩ (.int .i64 ((rd_T98 ah (ak)).f1))).setCell ⟨aq,2,none⟩ (.slice bc ((rd_T98 ah (ak)).f2).length bf)) w.heap.size (fun k_=>(w.heap.size≤k_)∧k_≠ar∧k_≠aw∧k_≠aq) (.slice (some b5) ah.length cz) ah):=⟨by(with_reducible repeat(first|apply Kd.N_alloc|apply Kd.N_drewN|apply Kd.N_drew));exact Kd.N_mono (Kd.N_far (p:=⟨aq,2,none⟩) (Kd.N_far (p:=⟨aq,1,none⟩) (Kd.N_far (p:=⟨aq,0,none⟩) (Kd.N_mono ao.out (fun k_ hk=>(⟨hk,hk.2⟩:_∧k_≠aq))) (fun _ hk=>hk.2) (.int .i64 ((rd_T98 ah (ak)).f0))) (fun _ hk=>hk.2) (.int .i64 ((rd_T98 ah (ak)).f1))) (fun _ hk=>hk.2) (.slice bc ((rd_T98 ah (ak)).f2).length bf)) (fun _ hk=>⟨hk.1.1.1,⟨hk.1.1.2.1,⟨hk.1.1.2.2,hk.1.2⟩⟩⟩)⟩;have n1_:Aside0 (Kd.V k53 53 (((eL.setCell ⟨aq,0,none⟩ (.int .i64 ((rd_T98 ah (ak)).f0))).setCell ⟨aq,1,none⟩ (.int .i64 ((rd_T98 ah (ak)).f1))).setCell ⟨aq,2,none⟩ (.slice bc ((rd_T98 ah (ak)).f2).length bf)) w.heap.size (fun k_=>(w.heap.size≤k_)∧some k_≠(.slice (some b5) ah.length cz:Value).ownBlock∧k_≠ar∧k_≠aw∧k_≠aq) (.slice bc ((rd_T98 ah (ak)).f2).length bf) ((rd_T98 ah (ak)).f2)):=⟨by(with_reducible repeat(first|apply Kd.V_alloc|apply Kd.V_drewN|apply Kd.V_drew));exact Kd.V_mono (Kd.V_far (p:=⟨aq,2,none⟩) (Kd.V_far (p:=⟨aq,1,none⟩) (Kd.V_far (p:=⟨aq,0,none⟩) (Kd.V_mono HL153_2.out (fun k_ hk=>(⟨hk,hk.2⟩:_∧k_≠aq))) (fun _ hk=>hk.2) (.int .i64 ((rd_T98 ah (ak)).f0))) (fun _ hk=>hk.2) (.int .i64 ((rd_T98 ah (ak)).f1))) (fun _ hk=>hk.2) (.slice bc ((rd_T98 ah (ak)).f2).length bf)) (fun _ hk=>⟨hk.1.1.1.1,⟨hk.1.1.2,⟨hk.1.1.1.2.1,⟨hk.1.1.1.2.2,hk.1.2⟩⟩⟩⟩)⟩;have n2_:Aside0 ((((eL.setCell ⟨aq,0,none⟩ (.int .i64 ((rd_T98 ah (ak)).f0))).setCell ⟨aq,1,none⟩ (.int .i64 ((rd_T98 ah (ak)).f1))).setCell ⟨aq,2,none⟩ (.slice bc ((rd_T98 ah (ak)).f2).length bf)).heap[aq]?=some (.cells #[.int .i64 ((rd_T98 ah (ak)).f0),.int .i64 ((rd_T98 ah (ak)).f1),.slice bc ((rd_T98 ah (ak)).f2).length bf] 98 (0,0))):=⟨by(with_reducible repeat(first|refine blk_drewN ?_ _|refine blk_drew ?_|refine blk_alloc ?_ _));refine blk_put (cs:=#[.int .i64 ((rd_T98 ah (ak)).f0),.int .i64 ((rd_T98 ah (ak)).f1),.slice none 0 0]) ?_ 2 _ rfl;(with_reducible repeat(first|refine blk_drewN ?_ _|refine blk_drew ?_|refine blk_alloc ?_ _));refine blk_put (cs:=#[.int .i64 ((rd_T98 ah (ak)).f0),.int .i64 0,.slice none 0 0]) ?_ 1 _ rfl;(with_reducible repeat(first|refine blk_drewN ?_ _|refine blk_drew ?_|refine blk_alloc ?_ _));refine blk_put (cs:=#[.int .i64 0,.int .i64 0,.slice none 0 0]) ?_ 0 _ rfl;(with_reducible repeat(first|refine blk_drewN ?_ _|refine blk_drew ?_|refine blk_alloc ?_ _));exact aQ.out⟩;have n3_:Aside0 (Below w.heap.size w (((eL.setCell ⟨aq,0,none⟩ (.int .i64 ((rd_T98 ah (ak)).f0))).setCell ⟨aq,1,none⟩ (.int .i64 ((rd_T98 ah (ak)).f1))).setCell ⟨aq,2,none⟩ (.slice bc ((rd_T98 ah (ak)).f2).length bf))):=⟨sq_below1 HB.out cg.out⟩
         (try clear ao)
         (try clear HL153_2)
         (try clear aQ)
         (try clear HB)
         generalize (((eL.setCell ⟨aq,0,none⟩ (.int .i64 ((rd_T98 ah (ak)).f0))).setCell ⟨aq,1,none⟩ (.int .i64 ((rd_T98 ah (ak)).f1))).setCell ⟨aq,2,none⟩ (.slice bc ((rd_T98 ah (ak)).f2).length bf))=jL at n0_ n1_ n2_ n3_ ⊢;have ao:=n0_;have HL153_2:=n1_;have aQ:=n2_;have HB:=n3_;clear n0_ n1_ n2_ n3_;replace ao:=am_ (Kd.N_drew ao.out);replace HL153_2:=am_ (Kd.V_drew HL153_2.out);replace aQ:=bd_ aQ;replace HB:=hd_ HB;have q91:(15:Int)≤((ah.length:Int):Int):=sq_dec;obtain⟨jI,dO,_,eJ,_⟩:=info_parts info98;have ef:=cut_to (P:=Tryd.prog) 77 98 .i64 Tryd.underlying77 dO (some b5) ah.length cz 15 (by omega) q91 (Kd.N_reads' ao.out).2.1;have dx:=Kd.N_take (m:=(15:Int).toNat) ao.out (by omega);have eK:bu.length=(15:Int).toNat:=(by rw [dG.out,List.length_take];omega);rw [← dG.out]at dx;rw [← eK]at dx ef;clear eK dO eJ;have cI:=am_ dx;clear dx;replace q91:=eq_true q91;refine start_ (n:=6) (S:=fun w'=>w'.cell? ⟨aq,0,none⟩=some (.int .i64 ((rd_T98 ah (ak)).f0))∧w'.cell? ⟨aq,1,none⟩=some (.int .i64 ((rd_T98 ah (ak)).f1))∧w'.cell? ⟨aq,2,none⟩=some (.slice bc ((rd_T98 ah (ak)).f2).length bf)) (ds:=[]) #[false,false,false,false,false,false] (by kernel_rfl) rfl rfl ⟨cl_ aQ 0,cl_ aQ 1,cl_ aQ 2⟩ (fun hHeld=>?_);generalize jL.drew=jT at ao HL153_2 aQ HB cI hHeld ⊢;refine pure_ (i:=0) (N:=some 100) (v:=?_) (a':=?_) #[true,false,false,false,false,false] rfl rfl (by kernel_rfl) (fun _ _ _ h=>h) (Or.inl ⟨by rfl,?_⟩) ?_ ?_;rotate_left
         ·
          intro w';go_simp;with_reducible rfl
         rotate_left
         ·
          simp only [Act.put,List.setIfInBounds_toArray,List.set_cons_zero,List.set_cons_succ,i64_w,i32_w];rfl
         refine pure_ (i:=1) (N:=some 101) (v:=?_) (a':=?_) #[true,true,false,false,false,false] rfl rfl (by kernel_rfl) (fun _ _ _ h=>h) (Or.inl ⟨by rfl,?_⟩) ?_ ?_;rotate_left
         ·
          intro w';go_simp;with_reducible rfl
         rotate_left
         ·
          simp only [Act.put,List.setIfInBounds_toArray,List.set_cons_zero,List.set_cons_succ,i64_w,i32_w];rfl
         refine take_ (i:=2) (N:=some 102) (v:=?_) (a':=?_) #[true,true,true,false,false,false] rfl rfl (by kernel_rfl) (fun _ _ _ h=>h) (Or.inl ⟨by rfl,?_⟩) hHeld ?_ ?_;rotate_left
         ·
          rintro w' ⟨s0,s1,s2⟩;go_simp;with_reducible rfl
         rotate_left
         ·
          simp only [Act.put,List.setIfInBounds_toArray,List.set_cons_zero,List.set_cons_succ,i64_w,i32_w];rfl
         refine one_ (i:=3) (N:=some 103) #[true,true,true,true,false,false] rfl rfl (by kernel_rfl) (by decide) (fun K hK=>?_);refine value_ (w1:=?_) (v:=?_) (by rfl) rfl ?_ ?_;rotate_left 2
         ·
          go_simp
          constructor
          ·
           rfl
          ·
           rfl
         refine hK.out _ _ ⟨(blk_cell (blk_alloc aQ.out _) 0).trans rfl,(blk_cell (blk_alloc aQ.out _) 1).trans rfl,(blk_cell (blk_alloc aQ.out _) 2).trans rfl⟩ (fun hHeld=>?_);clear hK K;refine norm_y 103 (h:=?_)
         refine one_ (i:=4) (N:=some 104) #[true,true,true,true,true,false] rfl rfl (by kernel_rfl) (by decide) (fun K hK=>?_);refine Kd.N_append_step k98 (w0:=w) w.heap.size (by rfl) (.tmp 101) (.tmp 103) 77 98 (.agg #[(.int .i64 0),(.int .i64 0),(.slice none 0 0)]) 40 rfl Tryd.underlying77 info98 rfl (by decide) (by omega) (.slice (some b5) bu.length cz) bu (⟨(rd_T98 ah (ak)).f0,(rd_T98 ah (ak)).f1,(rd_T98 ah (ak)).f2⟩:S98) [.int .i64 ((rd_T98 ah (ak)).f0),.int .i64 ((rd_T98 ah (ak)).f1),.slice bc ((rd_T98 ah (ak)).f2).length bf] (fun k_=>(w.heap.size≤k_)∧k_≠aq) (fun k_=>((fun k_=>(w.heap.size≤k_)∧k_≠aq)) k_∧some k_≠(.slice (some b5) bu.length cz:Value).ownBlock) rfl rfl ?aP (fun _ hk=>hk) ?aF ?aO ?aB ?aS ?aL ?_
         (case aP=>exact(k98_mkF _ _ (⟨(rd_T98 ah (ak)).f0,(rd_T98 ah (ak)).f1,(rd_T98 ah (ak)).f2⟩:S98) (Kd.V_reads' (Kd.V_mono (ok':=(fun k_=>((fun k_=>(w.heap.size≤k_)∧k_≠aq)) k_∧some k_≠(.slice (some b5) bu.length cz:Value).ownBlock)) (HL153_2.out) (fun k_ hk=>⟨⟨hk.1,hk.2.2.2.2⟩,hk.2.1⟩))).2.1 (Kd.V_F (Kd.V_mono (ok':=(fun k_=>((fun k_=>(w.heap.size≤k_)∧k_≠aq)) k_∧some k_≠(.slice (some b5) bu.length cz:Value).ownBlock)) (HL153_2.out) (fun k_ hk=>⟨⟨hk.1,hk.2.2.2.2⟩,hk.2.1⟩)))))
         (case aB=>exact(sq_below1 HB.out cg.out))
         (case aF=>exact(fun k_ hk=>⟨(Nat.le_trans (below_size (sq_below1 HB.out cg.out)) hk),Kd.freshB (g:=aq) (o:=.cells #[.int .i64 ((rd_T98 ah (ak)).f0),.int .i64 ((rd_T98 ah (ak)).f1),.slice bc ((rd_T98 ah (ak)).f2).length bf] 98 (0,0)) (sq_blk aQ.out) k_ hk⟩))
         (case aO=>exact(by(with_reducible repeat(first|apply Kd.N_alloc|apply Kd.N_drewN|apply Kd.N_drew));exact Kd.N_mono cI.out (fun _ hk=>⟨hk.1,hk.2.2.2⟩)))
         (case aS=>exact(below_size (sq_below1 HB.out cg.out)))
         (case aL=>have:=et.out;omega)
         intro v159 jU ho hb hg hat;rw [← eu.out]at ho;replace HL153_2:=am_ (Kd.V_afterv (ok:=(fun k_=>(w.heap.size≤k_)∧k_≠ar∧k_≠aw∧k_≠aq)) (by(with_reducible repeat(first|apply Kd.V_alloc|apply Kd.V_drewN|apply Kd.V_drew));exact Kd.V_mono HL153_2.out (fun _ hk=>⟨⟨hk.1,⟨hk.2.2.1,⟨hk.2.2.2.1,hk.2.2.2.2⟩⟩⟩,hk.2.1⟩)) hg hat);replace aQ:=am_ (blk_grown (g:=aq) (o:=.cells #[.int .i64 ((rd_T98 ah (ak)).f0),.int .i64 ((rd_T98 ah (ak)).f1),.slice bc ((rd_T98 ah (ak)).f2).length bf] 98 (0,0)) (sq_blk aQ.out) hg (Kd.N_away cI.out (fun _ hk=>hk.2.2.2)));replace HB:=am_ hb;have en:=am_ ho;clear cI;clear ho hb hg hat;refine hK.out _ _ ⟨cl_ aQ 0,cl_ aQ 1,cl_ aQ 2⟩ (fun hHeld=>?_);clear hK K;refine norm_y 104 (h:=?_)
         refine pure_ (i:=5) (N:=some 5) (v:=?_) (a':=?_) #[true,true,true,true,true,true] rfl rfl (by kernel_rfl) (fun _ _ _ h=>h) (Or.inl ⟨by rfl,?_⟩) ?_ ?_;rotate_left
         ·
          intro w';go_simp;with_reducible rfl
         rotate_left
         ·
          simp only [Act.put,List.setIfInBounds_toArray,List.set_cons_zero,List.set_cons_succ,i64_w,i32_w];rfl
         refine done_ (by kernel_rfl) ?_
         try go_wp2
         go_ret
         exact⟨_,by first|rfl|(simp [errW_none,errW_some]<;>rfl)|(simp only [← cM];first|rfl|(simp [errW_none,errW_some]<;>rfl))|(simp [*,errW_none,errW_some]<;>rfl),by(with_reducible repeat(first|apply Kd.N_alloc|apply Kd.N_drewN|apply Kd.N_drew));exact Kd.N_mono en.out (fun _ hk=>hk.1),sq_below1 HB.out cg.out⟩
        ·
         rw [if_neg c84]at H;exact absurd H (by simp)
       ·
        rw [if_neg c83]at H;exact absurd H (by simp)
      ·
       rw [if_neg c82]at H;exact absurd H (by simp)
     ·
      rw [if_neg c81]at H;exact absurd H (by simp)
    ·
     rw [if_neg c79]at H;have eG:=decide_eq_false (p:=16<(ah.length:Int)) c79;have eH:decide (16<ah.length)=false:=decide_eq_false (by omega);clear c79;obtain rfl:=Option.some.inj H;obtain⟨fF,fG,fH,gI,gJ,gK⟩:=cz3_ aa;obtain⟨jA,jE,hZ⟩:=Kd.N_slice ao.out;subst hZ
     go_wp2
     go_ret
     exact⟨_,by first|rfl|(simp [errW_none,errW_some]<;>rfl)|(simp [*,errW_none,errW_some]<;>rfl),by(with_reducible repeat(first|apply Kd.N_alloc|apply Kd.N_drewN|apply Kd.N_drew));exact Kd.N_mono ao.out (fun _ hk=>hk.1),sq_below HB.out⟩
end Go.Proofs.YtcdeojfeebmonaaDoor.Q
