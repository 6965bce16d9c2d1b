/- Functions of the translation as Lean functions, each with a proof that a call answers so; out of the seat, by this claim's own program prt.py. -/
import Derived.Test.YtcdeojfeebmonaaDoorWTab
import Derived.Test.YtcdeojfeebmonaaDoorWRepsOne
import Derived.Test.YtcdeojfeebmonaaDoorWGuard
import Derived.Test.YtcdeojfeebmonaaDoorQx0
import Derived.Test.YtcdeojfeebmonaaDoorQx3
import Derived.Test.YtcdeojfeebmonaaDoorQx4
import Derived.Test.YtcdeojfeebmonaaDoorQx5
import Derived.Test.YtcdeojfeebmonaaDoorQx6
import Derived.Test.YtcdeojfeebmonaaDoorQStep3
namespace Go.Proofs.YtcdeojfeebmonaaDoor.Q
open Go.RowKit Go.Proofs.YtcdeojfeebmonaaDoorW.PrintWords Go.Proofs.YtcdeojfeebmonaaDoorW.PrintLast Go.Proofs.YtcdeojfeebmonaaDoorW.PrintMore
attribute [local go_sem] max2_int min2_int max_two min_two max_three min_three max_four min_four
set_option linter.unusedVariables false
set_option maxHeartbeats 8000000
set_option maxRecDepth 100000
set_option linter.unusedSimpArgs false
mutual
def spec_SegOk.j0:Nat→Int→Int→Int→Bool→List (List (S53))→List (S60)→List Bool→Option (Bool)
 |0,_,_,_,_,_,_,_=>none
 |k+1,x0,x1,x7,x43,ap,aq,ay=>if x43=true then(some false)else(spec_SegOk.l0 k x0 x1 x7 0 0 ap aq ay)
def spec_SegOk.l0:Nat→Int→Int→Int→Int→Int→List (List (S53))→List (S60)→List Bool→Option (Bool)
 |0,_,_,_,_,_,_,_,_=>none
 |k+1,x0,x1,x7,x8,x9,ap,aq,ay=>if x9<x7 then(if 0≤x9 then(if x9<(ap.length:Int)then(if((rd_L7 ap x9).length:Int)=0 then(spec_SegOk.j2 k x0 x1 x7 (wrap64 (x8+((rd_L7 ap x9).length:Int))) x9 (rd_L7 ap x9) true ap aq ay)else(spec_SegOk.j2 k x0 x1 x7 (wrap64 (x8+((rd_L7 ap x9).length:Int))) x9 (rd_L7 ap x9) (decide ((wrap64 (x8+((rd_L7 ap x9).length:Int))) > 40)) ap aq ay))else(none))else(none))else(spec_SegOk.l2 k x1 x7 0 ap aq ay)
def spec_SegOk.j2:Nat→Int→Int→Int→Int→Int→List (S53)→Bool→List (List (S53))→List (S60)→List Bool→Option (Bool)
 |0,_,_,_,_,_,_,_,_,_,_=>none
 |k+1,x0,x1,x7,x8,x9,x10,x64,ap,aq,ay=>if x64=true then(some false)else(spec_SegOk.l1 k x0 x1 x7 x8 x9 x10 0 ap aq ay)
def spec_SegOk.l1:Nat→Int→Int→Int→Int→Int→List (S53)→Int→List (List (S53))→List (S60)→List Bool→Option (Bool)
 |0,_,_,_,_,_,_,_,_,_,_=>none
 |k+1,x0,x1,x7,x8,x9,x10,x11,ap,aq,ay=>if x11<(x10.length:Int)then(if 0≤x11 then((spec_SymOk.f x0 ((rd_T53 x10 x11).f0) ((rd_T53 x10 x11).f1)).bind fun dj=>(if dj=true then(if x11 > 0 then(if 0≤(wrap64 (x11-1))then(if(wrap64 (x11-1))<(x10.length:Int)then((spec_SymLess.f ((rd_T53 x10 (wrap64 (x11-1))).f0) ((rd_T53 x10 (wrap64 (x11-1))).f1) ((rd_T53 x10 x11).f0) ((rd_T53 x10 x11).f1)).bind fun cS=>(if cS=true then((spec_l10In.f k ap aq ay ((rd_T53 x10 x11).f0) ((rd_T53 x10 x11).f1)).bind fun bX=>(if bX=x9 then(spec_SegOk.l1 k x0 x1 x7 x8 x9 x10 (wrap64 (x11+1)) ap aq ay)else(some false)))else(some false)))else(none))else(none))else((spec_l10In.f k ap aq ay ((rd_T53 x10 x11).f0) ((rd_T53 x10 x11).f1)).bind fun b8=>(if b8=x9 then(spec_SegOk.l1 k x0 x1 x7 x8 x9 x10 (wrap64 (x11+1)) ap aq ay)else(some false))))else(some false)))else(none))else(spec_SegOk.l0 k x0 x1 x7 x8 (wrap64 (x9+1)) ap aq ay)
def spec_SegOk.l2:Nat→Int→Int→Int→List (List (S53))→List (S60)→List Bool→Option (Bool)
 |0,_,_,_,_,_,_=>none
 |k+1,x1,x7,x12,ap,aq,ay=>if x12<(wrap64 (x7-1))then(if 0≤x12 then(if x12<(aq.length:Int)then((spec_ValOk.f ((rd_T60 aq x12).f0.f0) ((rd_T60 aq x12).f0.f1) ((rd_T60 aq x12).f1)).bind fun dk=>(if dk=true then(spec_SegOk.l2 k x1 x7 (wrap64 (x12+1)) ap aq ay)else(some false)))else(none))else(none))else((spec_l10In.f k ap aq ay 0 0).bind fun b9=>(if b9=0 then((spec_l10In.f k ap aq ay x1 0).bind fun dl=>(some (dl ==(wrap64 (x7-1)))))else(some false)))
end
def spec_SegOk.f(k:Nat)(a0:Int)(a1:Int)(ac:List (List (S53)))(aj:List (S60))(ar:List Bool):Option (Bool):=(spec_l10Size.f a0 a1).bind fun cR=>(if cR=true then(if(ac.length:Int)<1 then(spec_SegOk.j0 k a0 a1 (ac.length:Int) true ac aj ar)else(if(ac.length:Int) > 16 then(spec_SegOk.j0 k a0 a1 (ac.length:Int) true ac aj ar)else(if(aj.length:Int)=(wrap64 ((ac.length:Int)-1))then(spec_SegOk.j0 k a0 a1 (ac.length:Int) ((ar.length:Int) !=(wrap64 ((ac.length:Int)-1))) ac aj ar)else(spec_SegOk.j0 k a0 a1 (ac.length:Int) true ac aj ar))))else(spec_SegOk.j0 k a0 a1 (ac.length:Int) true ac aj ar))
theorem spec_SegOk.mono_l:∀ k,(∀ y0 y1 y2 y3 y4 y5 y6,LeO (spec_SegOk.j0 k y0 y1 y2 y3 y4 y5 y6) (spec_SegOk.j0 (k+1) y0 y1 y2 y3 y4 y5 y6))∧(∀ y0 y1 y2 y3 y4 y5 y6 y7,LeO (spec_SegOk.l0 k y0 y1 y2 y3 y4 y5 y6 y7) (spec_SegOk.l0 (k+1) y0 y1 y2 y3 y4 y5 y6 y7))∧(∀ y0 y1 y2 y3 y4 y5 y6 y7 y8 y9,LeO (spec_SegOk.j2 k y0 y1 y2 y3 y4 y5 y6 y7 y8 y9) (spec_SegOk.j2 (k+1) y0 y1 y2 y3 y4 y5 y6 y7 y8 y9))∧(∀ y0 y1 y2 y3 y4 y5 y6 y7 y8 y9,LeO (spec_SegOk.l1 k y0 y1 y2 y3 y4 y5 y6 y7 y8 y9) (spec_SegOk.l1 (k+1) y0 y1 y2 y3 y4 y5 y6 y7 y8 y9))∧(∀ y0 y1 y2 y3 y4 y5,LeO (spec_SegOk.l2 k y0 y1 y2 y3 y4 y5) (spec_SegOk.l2 (k+1) y0 y1 y2 y3 y4 y5))
 |0=>⟨fun _ _ _ _ _ _ _ r h=>by simp [spec_SegOk.j0]at h,fun _ _ _ _ _ _ _ _ r h=>by simp [spec_SegOk.l0]at h,fun _ _ _ _ _ _ _ _ _ _ r h=>by simp [spec_SegOk.j2]at h,fun _ _ _ _ _ _ _ _ _ _ r h=>by simp [spec_SegOk.l1]at h,fun _ _ _ _ _ _ r h=>by simp [spec_SegOk.l2]at h⟩
 |k+1=>by
  obtain⟨ih0,ih1,ih2,ih3,ih4⟩:=spec_SegOk.mono_l k;refine⟨?_,?_,?_,?_,?_⟩
  all_goals (intros;first|unfold spec_SegOk.j0|unfold spec_SegOk.l0|unfold spec_SegOk.j2|unfold spec_SegOk.l1|unfold spec_SegOk.l2)
  all_goals repeat' first
   |(with_reducible exact ih0 _ _ _ _ _ _ _)|(with_reducible exact ih1 _ _ _ _ _ _ _ _)|(with_reducible exact ih2 _ _ _ _ _ _ _ _ _ _)|(with_reducible exact ih3 _ _ _ _ _ _ _ _ _ _)|(with_reducible exact ih4 _ _ _ _ _ _)|(with_reducible exact spec_l10In.mono _ _ _ _ _ _)|(with_reducible exact LeO.refl _)|(with_reducible exact LeO.none _)|(with_reducible refine LeO.ite ?_ ?_)|(with_reducible refine LeO.bind ?_ fun _=>?_)|exact ih0 _ _ _ _ _ _ _|exact ih1 _ _ _ _ _ _ _ _|exact ih2 _ _ _ _ _ _ _ _ _ _|exact ih3 _ _ _ _ _ _ _ _ _ _|exact ih4 _ _ _ _ _ _|exact spec_l10In.mono _ _ _ _ _ _|exact LeO.none _|refine LeO.ite ?_ ?_|refine LeO.bind ?_ fun _=>?_
theorem spec_SegOk.mono:∀ a0 a1 a2 a3 a4 k,LeO (spec_SegOk.f k a0 a1 a2 a3 a4) (spec_SegOk.f (k+1) a0 a1 a2 a3 a4):=by
 intro a0 a1 a2 a3 a4 k;obtain⟨ih0,ih1,ih2,ih3,ih4⟩:=spec_SegOk.mono_l k;unfold spec_SegOk.f
 repeat' first
   |(with_reducible exact ih0 _ _ _ _ _ _ _)|(with_reducible exact ih1 _ _ _ _ _ _ _ _)|(with_reducible exact ih2 _ _ _ _ _ _ _ _ _ _)|(with_reducible exact ih3 _ _ _ _ _ _ _ _ _ _)|(with_reducible exact ih4 _ _ _ _ _ _)|(with_reducible exact spec_l10In.mono _ _ _ _ _ _)|(with_reducible exact LeO.refl _)|(with_reducible exact LeO.none _)|(with_reducible refine LeO.ite ?_ ?_)|(with_reducible refine LeO.bind ?_ fun _=>?_)|exact ih0 _ _ _ _ _ _ _|exact ih1 _ _ _ _ _ _ _ _|exact ih2 _ _ _ _ _ _ _ _ _ _|exact ih3 _ _ _ _ _ _ _ _ _ _|exact ih4 _ _ _ _ _ _|exact spec_l10In.mono _ _ _ _ _ _|exact LeO.none _|refine LeO.ite ?_ ?_|refine LeO.bind ?_ fun _=>?_
def spec_SegOk.T15:Bool×List (List Nat×List Nat):=(true,[([],[]),([],[]),([],[]),([1,2],[1,2]),([3],[3]),([0,4],[0,4]),([5],[5]),([6,5],[6]),([7],[7]),([8,7],[7,8]),([9,7,7],[7,9]),([10],[10]),([10],[10]),([12,10],[10,12]),([11,13,10],[10,11,13]),([14,10],[10,14]),([10],[10]),([10],[10]),([16,17,10],[10,16,17]),([18,10],[10,18]),([15,19,10,10],[10,15,19]),([20,10],[10,20]),([10,21,7],[7,10,21]),([7,22],[7,22]),([23,20],[23]),([24],[24]),([24],[24]),([24],[24]),([26,27,24],[24,26,27]),([28,24],[24,28]),([25,29,24,24],[24,25,29]),([24],[24]),([30,31,24],[24,30,31]),([24,32],[24,32])])
def spec_SegOk.B15:List Nat:=[0,0,0,6,14,31,63,127,255,511,1023,2047,2047,6143,16383,32767,2047,2047,198655,460799,1048575,2097151,4194303,8388607,16777215,33554431,33554431,33554431,234881023,503316479,1073741823,33554431,4294967295,8589934591]
theorem spec_SegOk.tab15:rtab .any (opsOf Tryd.f12 15)=spec_SegOk.T15:=by kernel_rfl
theorem spec_SegOk.bits15:waitsOk spec_SegOk.T15.2 spec_SegOk.B15=true:=by kernel_rfl
theorem spec_SegOk.calls(k:Nat)(a0:Int)(a1:Int)(cb:Option Addr)(bk:Nat)(ac:List (List (S53)))(bi:Option Addr)(bn:Nat)(aj:List (S60))(bj:Option Addr)(bo:Nat)(ar:List Bool)(r:Bool)(w:World)(dc:Kd.C (Kd.slice 53 k53) w cb ac.length ac)(cZ:ac.length≤bk)(dd:Kd.C k60 w bi aj.length aj)(da:aj.length≤bn)(de:Kd.C Kd.bool w bj ar.length ar)(db:ar.length≤bo)(h:spec_SegOk.f k a0 a1 ac aj ar=some r) :
  Calls Tryd.prog 12 #[.int .i64 a0,.int .i64 a1,.agg #[.slice cb ac.length bk,.slice bi aj.length bn,.slice bj ar.length bo]] w fun e w'=>e=.returned (.bool r)∧Below w.heap.size w w':=by
 have hu32:=Tryd.underlying32;have hu53:=Tryd.underlying53;have hu60:=Tryd.underlying60;have bz:=am_ dc;have bN:=am_ cZ;clear dc cZ;have bq:=am_ dd;have bO:=am_ da;clear dd da;have bQ:=am_ de;have bP:=am_ db;clear de db;have HB:=am_ (Below.refl w.heap.size w);have H:((spec_l10Size.f a0 a1).bind fun cR=>(if cR=true then(if(ac.length:Int)<1 then(spec_SegOk.j0 k a0 a1 (ac.length:Int) true ac aj ar)else(if(ac.length:Int) > 16 then(spec_SegOk.j0 k a0 a1 (ac.length:Int) true ac aj ar)else(if(aj.length:Int)=(wrap64 ((ac.length:Int)-1))then(spec_SegOk.j0 k a0 a1 (ac.length:Int) ((ar.length:Int) !=(wrap64 ((ac.length:Int)-1))) ac aj ar)else(spec_SegOk.j0 k a0 a1 (ac.length:Int) true ac aj ar))))else(spec_SegOk.j0 k a0 a1 (ac.length:Int) true ac aj ar)))=some r:=h;clear h;have ec:=am_ H;clear H
 go_enter Tryd.func12,Tryd.ntmps12
 go_upto_region 2 with(first|((with_reducible refine gate_dst (N:=5) rfl ?_);(try(refine gate_guard (by rfl) ?_;dsimp only));refine box_y 5 #[.slice cb ac.length bk,.slice bi aj.length bn,.slice bj ar.length bo] 32 (h:=?_);intro aQ hg w5 hbox hb;have af:=am_ hbox;have ef:=gz_ hg HB;have au:=gz_ hg HB;replace HB:=hb_ HB hb;clear hb hbox hg;obtain⟨bZ,b3,b4,b5,b6,b7⟩:=cz3_ af))
 (try simp only [Act.put,List.setIfInBounds_toArray,List.set_cons_zero,List.set_cons_succ])
 go_cut [43] (fun v43 wc=>∃ (kq:Nat) (cH:Bool),v43=.bool cH∧Aside0 (spec_SegOk.j0 kq a0 a1 (ac.length:Int) cH ac aj ar=some r)∧Aside0 (kq≤k)∧Aside0 (wc.heap[aQ]?=some (.cells #[(.slice cb ac.length bk),(.slice bi aj.length bn),(.slice bj ar.length bo)] 32 (0,0)))∧Aside0 (Below w.heap.size w wc))
 case first =>
  have H:=ec.out;clear ec;obtain⟨cR,A7,H⟩:=be_ H;(try dsimp only at H)
  by_cases c8:cR=true
  ·
   subst c8;have H1:=ifp_ H
   clear H;have H:=H1;clear H1
   by_cases c9:(ac.length:Int)<1
   ·
    rw [if_pos c9]at H;have bY:=decide_eq_true (p:=(ac.length:Int)<1) c9;have cM:decide (ac.length<1)=true:=decide_eq_true (by omega);clear c9
    (first|rw [bY]|(simp only [i64_w,i32_w];rw [bY])|skip)
    have H':=am_ H;clear H
    go_wp2_with (first|((with_reducible refine gate_callee (f:=23) rfl ?_);refine gl_ 18 Tryd.func23 #[.int .i64 a0,.int .i64 a1] (h:=?_);(with_reducible refine(spec_l10Size.calls a0 a1 true _ A7.out).mono ?_);rintro e w' ⟨rfl,⟨nd,rfl⟩⟩;refine⟨_,rfl,?_⟩))
    go_meet
    case rel=>exact⟨_,(true),sr_,H',om_,bk_ af,⟨sq_below1 HB.out au.out⟩⟩
   ·
    rw [if_neg c9]at H;have bY:=decide_eq_false (p:=(ac.length:Int)<1) c9;have cM:decide (ac.length<1)=false:=decide_eq_false (by omega);clear c9
    (first|rw [bY]|(simp only [i64_w,i32_w];rw [bY])|skip)
    by_cases c10:(ac.length:Int) > 16
    ·
     rw [if_pos c10]at H;have cg:=decide_eq_true (p:=16<(ac.length:Int)) c10;have ch:decide (16<ac.length)=true:=decide_eq_true (by omega);clear c10;have H':=am_ H;clear H
     go_wp2_with (first|((with_reducible refine gate_callee (f:=23) rfl ?_);refine gl_ 18 Tryd.func23 #[.int .i64 a0,.int .i64 a1] (h:=?_);(with_reducible refine(spec_l10Size.calls a0 a1 true _ A7.out).mono ?_);rintro e w' ⟨rfl,⟨nd,rfl⟩⟩;refine⟨_,rfl,?_⟩))
     go_meet
     case rel=>exact⟨_,(true),sr_,H',om_,bk_ af,⟨sq_below1 HB.out au.out⟩⟩
    ·
     rw [if_neg c10]at H;have cg:=decide_eq_false (p:=16<(ac.length:Int)) c10;have ch:decide (16<ac.length)=false:=decide_eq_false (by omega);clear c10
     by_cases c11:(aj.length:Int)=(wrap64 ((ac.length:Int)-1))
     ·
      rw [if_pos c11]at H;have cj:((aj.length:Int) ==(wrap64 ((ac.length:Int)-1)))=true:=beq_iff_eq.mpr c11;have ck:((aj.length:Int) !=(wrap64 ((ac.length:Int)-1)))=false:=bne_eq_false_iff_eq.mpr c11;clear c11;have H':=am_ H;clear H
      go_wp2_with (first|((with_reducible refine gate_callee (f:=23) rfl ?_);refine gl_ 18 Tryd.func23 #[.int .i64 a0,.int .i64 a1] (h:=?_);(with_reducible refine(spec_l10Size.calls a0 a1 true _ A7.out).mono ?_);rintro e w' ⟨rfl,⟨nd,rfl⟩⟩;refine⟨_,rfl,?_⟩;obtain⟨bA,bB,bC,bG,bH,bI⟩:=cz3_ af))
      go_meet
      case rel=>exact⟨_,(((ar.length:Int) !=(wrap64 ((ac.length:Int)-1)))),sr_,H',om_,bk_ af,⟨sq_below1 HB.out au.out⟩⟩
     ·
      rw [if_neg c11]at H;have cj:((aj.length:Int) ==(wrap64 ((ac.length:Int)-1)))=false:=beq_eq_false_iff_ne.mpr c11;have ck:((aj.length:Int) !=(wrap64 ((ac.length:Int)-1)))=true:=bne_iff_ne.mpr c11;have H':=am_ H;clear H
      go_wp2_with (first|((with_reducible refine gate_callee (f:=23) rfl ?_);refine gl_ 18 Tryd.func23 #[.int .i64 a0,.int .i64 a1] (h:=?_);(with_reducible refine(spec_l10Size.calls a0 a1 true _ A7.out).mono ?_);rintro e w' ⟨rfl,⟨nd,rfl⟩⟩;refine⟨_,rfl,?_⟩;obtain⟨bD,bE,bF,bJ,bK,bL⟩:=cz3_ af))
      go_meet
      case rel=>exact⟨_,(true),sr_,H',om_,bk_ af,⟨sq_below1 HB.out au.out⟩⟩
  ·
   replace c8:=Bool.eq_false_iff.mpr c8;subst c8;have H1:=ifn_ H
   clear H;have H:=H1;clear H1;have H':=am_ H;clear H
   go_wp2_with (first|((with_reducible refine gate_callee (f:=23) rfl ?_);refine gl_ 18 Tryd.func23 #[.int .i64 a0,.int .i64 a1] (h:=?_);(with_reducible refine(spec_l10Size.calls a0 a1 false _ A7.out).mono ?_);rintro e w' ⟨rfl,⟨nd,rfl⟩⟩;refine⟨_,rfl,?_⟩))
   go_meet
   case rel=>exact⟨_,(true),sr_,H',om_,bk_ af,⟨sq_below1 HB.out au.out⟩⟩
 case rest =>
  clear ec
  obtain⟨kq,cH,rfl,HA,HJ3,af,HB⟩:=hcut;cases kq with
  |zero=>exact absurd HA.out (by simp [spec_SegOk.j0])
  |succ en =>
   have H:=HA.out;clear HA;simp only [spec_SegOk.j0]at H
   by_cases c14:cH=true
   ·
    subst c14;have H1:=ifp_ H
    clear H;have H:=H1;clear H1;obtain rfl:=Option.some.inj H
    go_wp2
    go_ret
    exact⟨lf_,sq_below1 HB.out au.out⟩
   ·
    replace c14:=Bool.eq_false_iff.mpr c14;subst c14;have H1:=ifn_ H
    clear H;have H:=H1;clear H1;have H':=am_ H;clear H
    go_wp2
    go_loopg [8,9] en (fun kq v8 v9 w'=>∃ (cp:Int) (ae:Int),v8=.int .i64 cp∧v9=.int .i64 ae∧Aside0 (spec_SegOk.l0 kq a0 a1 (ac.length:Int) cp ae ac aj ar=some r)∧Aside0 (kq≤en)∧Aside0 (w'.heap[aQ]?=some (.cells #[(.slice cb ac.length bk),(.slice bi aj.length bn),(.slice bj ar.length bo)] 32 (0,0)))∧Aside0 (Below w.heap.size w w'))
    case atStart=>exact⟨(0),(0),sr_,sr_,H',⟨Nat.le_refl _⟩,bk_ af,⟨sq_below1 HB.out au.out⟩⟩
    case round =>
     clear H'
     obtain⟨cp,ae,rfl,rfl,HA,HK2,af,HB⟩:=hrel;cases gk with
     |zero=>exact absurd HA.out (by simp [spec_SegOk.l0])
     |succ k2 =>
      have H:=HA.out;clear HA;simp only [spec_SegOk.l0]at H
      by_cases c15:ae<(ac.length:Int)
      ·
       rw [if_pos c15]at H;have cz:=decide_eq_true (p:=ae<(ac.length:Int)) c15;clear c15
       by_cases c16:0≤ae
       ·
        rw [if_pos c16]at H;have cT:=decide_eq_true (p:=0≤ae) c16;clear c16
        by_cases c17:ae<(ac.length:Int)
        ·
         rw [if_pos c17]at H;have cU:=decide_eq_true (p:=ae<(ac.length:Int)) c17;clear c17;have df:=am_ H;clear H;obtain⟨cA,cB,cC,cD,cF,cG⟩:=cz3_ af;have cP:0≤(ae:Int):=sq_dec;have cQ:ae<(ac.length:Int):=sq_dec;obtain⟨bp,d9,ed,ee,bM,hl134_0,hi134_0⟩:=at_L7 bz.out ae cP cQ;cases ee;replace bM:=cb_ HB bM;have az:=am_ hi134_0;have dz:=am_ hl134_0;clear hi134_0 hl134_0;replace cP:=eq_true cP;replace cQ:=eq_true cQ
         go_upto_region 10 with(fail)
         go_cut [64] (fun v64 wc=>∃ (kq:Nat) (ca:Bool),v64=.bool ca∧Aside0 (spec_SegOk.j2 kq a0 a1 (ac.length:Int) (wrap64 (cp+((rd_L7 ac ae).length:Int))) ae (rd_L7 ac ae) ca ac aj ar=some r)∧Aside0 (kq≤k2)∧Aside0 (wc.heap[aQ]?=some (.cells #[(.slice (some bp) ac.length bk),(.slice bi aj.length bn),(.slice bj ar.length bo)] 32 (0,0)))∧Aside0 (Below w.heap.size w wc))
         case first =>
          have H:=df.out;clear df
          by_cases c20:((rd_L7 ac ae).length:Int)=0
          ·
           rw [if_pos c20]at H;have bR:(((rd_L7 ac ae).length:Int) == 0)=true:=beq_iff_eq.mpr c20;have cK:(((rd_L7 ac ae).length:Int) != 0)=false:=bne_eq_false_iff_eq.mpr c20;clear c20
           (first|rw [bR]|(simp only [i64_w,i32_w];rw [bR])|skip)
           have H':=am_ H;clear H
           go_wp2
           go_meet
           case rel=>exact⟨_,(true),sr_,H',⟨by have:=HJ3.out;have:=HK2.out;first|omega|exact Nat.le_refl _⟩,bk_ af,⟨sq_below1 HB.out au.out⟩⟩
          ·
           rw [if_neg c20]at H;have bR:(((rd_L7 ac ae).length:Int) == 0)=false:=beq_eq_false_iff_ne.mpr c20;have cK:(((rd_L7 ac ae).length:Int) != 0)=true:=bne_iff_ne.mpr c20;have cV:¬((rd_L7 ac ae)=[]):=fun h_=>c20 (by rw [h_];rfl)
           (first|rw [bR]|(simp only [i64_w,i32_w];rw [bR])|skip)
           have H':=am_ H;clear H
           go_wp2
           go_meet
           case rel=>exact⟨_,(decide ((wrap64 (cp+((rd_L7 ac ae).length:Int))) > 40)),sr_,H',⟨by have:=HJ3.out;have:=HK2.out;first|omega|exact Nat.le_refl _⟩,bk_ af,⟨sq_below1 HB.out au.out⟩⟩
         case rest =>
          clear df
          obtain⟨kq,ca,rfl,HA,HJ17,af,HB⟩:=hcut;cases kq with
          |zero=>exact absurd HA.out (by simp [spec_SegOk.j2])
          |succ dy =>
           have H:=HA.out;clear HA;simp only [spec_SegOk.j2]at H
           by_cases c21:ca=true
           ·
            subst c21;have H1:=ifp_ H
            clear H;have H:=H1;clear H1;obtain rfl:=Option.some.inj H
            go_wp2
            go_ret
            exact⟨lf_,sq_below1 HB.out au.out⟩
           ·
            replace c21:=Bool.eq_false_iff.mpr c21;subst c21;have H1:=ifn_ H
            clear H;have H:=H1;clear H1;have H':=am_ H;clear H
            go_wp2
            go_loopg [11] dy (fun kq v11 w'=>∃ (aa:Int),v11=.int .i64 aa∧Aside0 (spec_SegOk.l1 kq a0 a1 (ac.length:Int) (wrap64 (cp+((rd_L7 ac ae).length:Int))) ae (rd_L7 ac ae) aa ac aj ar=some r)∧Aside0 (kq≤dy)∧Aside0 (w'.heap[aQ]?=some (.cells #[(.slice (some bp) ac.length bk),(.slice bi aj.length bn),(.slice bj ar.length bo)] 32 (0,0)))∧Aside0 (Below w.heap.size w w'))
            case atStart=>exact⟨(0),sr_,H',⟨Nat.le_refl _⟩,bk_ af,⟨sq_below1 HB.out au.out⟩⟩
            case round =>
             clear H'
             obtain⟨aa,rfl,HA,HK4,af,HB⟩:=hrel;cases gk with
             |zero=>exact absurd HA.out (by simp [spec_SegOk.l1])
             |succ k4 =>
              have H:=HA.out;clear HA;simp only [spec_SegOk.l1]at H
              by_cases c22:aa<((rd_L7 ac ae).length:Int)
              ·
               rw [if_pos c22]at H;have cW:=decide_eq_true (p:=aa<((rd_L7 ac ae).length:Int)) c22;clear c22
               by_cases c23:0≤aa
               ·
                rw [if_pos c23]at H;have eh:=decide_eq_true (p:=0≤aa) c23;clear c23;obtain⟨dj,A24,H⟩:=be_ H;(try dsimp only at H)
                by_cases c25:dj=true
                ·
                 subst c25;have H1:=ifp_ H
                 clear H;have H:=H1;clear H1
                 by_cases c26:aa > 0
                 ·
                  rw [if_pos c26]at H;have dp:=decide_eq_true (p:=0<aa) c26;clear c26;obtain⟨aw,br⟩:∃ j_:Int,(wrap64 (aa-1))=j_:=⟨_,rfl⟩;replace H:(if 0≤(aw)then(if(aw)<((rd_L7 ac ae).length:Int)then((spec_SymLess.f ((rd_T53 (rd_L7 ac ae) (aw)).f0) ((rd_T53 (rd_L7 ac ae) (aw)).f1) ((rd_T53 (rd_L7 ac ae) aa).f0) ((rd_T53 (rd_L7 ac ae) aa).f1)).bind fun cS=>(if cS=true then((spec_l10In.f k4 ac aj ar ((rd_T53 (rd_L7 ac ae) aa).f0) ((rd_T53 (rd_L7 ac ae) aa).f1)).bind fun bX=>(if bX=ae then(spec_SegOk.l1 k4 a0 a1 (ac.length:Int) (wrap64 (cp+((rd_L7 ac ae).length:Int))) ae (rd_L7 ac ae) (wrap64 (aa+1)) ac aj ar)else(some false)))else(some false)))else(none))else(none))=some r:=by first|(rw [br]at H;exact H)|(simp only [br]at H ⊢;exact H)
                  (try rw [br]at A24)
                  have hji27w:(IntKind.i64.wrap (aa-1))=aw:=(i64_w _).trans br
                  by_cases c28:0≤(aw)
                  ·
                   rw [if_pos c28]at H;have ej:=decide_eq_true (p:=0≤(aw)) c28;clear c28
                   by_cases c29:(aw)<((rd_L7 ac ae).length:Int)
                   ·
                    rw [if_pos c29]at H;have ek:=decide_eq_true (p:=(aw)<((rd_L7 ac ae).length:Int)) c29;clear c29;obtain⟨cS,A30,H⟩:=be_ H;(try dsimp only at H)
                    by_cases c31:cS=true
                    ·
                     subst c31;have H1:=ifp_ H
                     clear H;have H:=H1;clear H1;obtain⟨bX,A32,H⟩:=be_ H;(try dsimp only at H)
                     by_cases c33:bX=ae
                     ·
                      rw [if_pos c33]at H;have dq:(bX == ae)=true:=beq_iff_eq.mpr c33;have dr:(bX != ae)=false:=bne_eq_false_iff_eq.mpr c33;clear c33;have H':=am_ H;clear H
                      try go_wp2
                      replace af:=bd_ af;replace HB:=hd_ HB;have aX:0≤(aa:Int):=sq_dec;have aY:aa<((rd_L7 ac ae).length:Int):=sq_dec;obtain⟨ag,bS,ah,ai⟩:=at_T53 az.out aa aX aY;have ao:=ai;have ak:=ah;cases bS;replace ah:=cb_ HB ah;replace ai:=cb_ HB ai;replace aX:=eq_true aX;replace aY:=eq_true aY;have bT:0≤((aw):Int):=sq_dec;have bV:(aw)<((rd_L7 ac ae).length:Int):=sq_dec;obtain⟨cd,cN,aA,aC⟩:=at_T53 az.out (aw) bT bV;have aI:=aC;have aH:=aA;obtain rfl:ag=cd:=(by injection cN);replace aA:=cb_ HB aA;replace aC:=cb_ HB aC;replace bT:=eq_true bT;replace bV:=eq_true bV;have bU:0≤(aa:Int):=sq_dec;have bW:aa<((rd_L7 ac ae).length:Int):=sq_dec;obtain⟨cf,cO,aD,aG⟩:=at_T53 az.out aa bU bW;have aK:=aG;have aJ:=aD;obtain rfl:ag=cf:=(by injection cO);replace aD:=cb_ HB aD;replace aG:=cb_ HB aG;replace bU:=eq_true bU;replace bW:=eq_true bW;have cq:0≤(aa:Int):=sq_dec;have cx:aa<((rd_L7 ac ae).length:Int):=sq_dec;obtain⟨cI,dg,aV,aW⟩:=at_T53 az.out aa cq cx;have aU:=aW;have aT:=aV;obtain rfl:ag=cI:=(by injection dg);replace aV:=cb_ HB aV;replace aW:=cb_ HB aW;replace cq:=eq_true cq;replace cx:=eq_true cx;refine start_ (n:=34) (S:=fun w'=>w'.cell? ⟨aQ,0,none⟩=some (.slice (some bp) ac.length bk)∧w'.cell? ⟨aQ,1,none⟩=some (.slice bi aj.length bn)∧w'.cell? ⟨aQ,2,none⟩=some (.slice bj ar.length bo)∧w'.cell? (ag.add ((aa).toNat*2))=some (.int .i64 ((rd_T53 (rd_L7 ac ae) aa).f0))∧w'.cell? ⟨(ag.add ((aa).toNat*2)).block,(ag.add ((aa).toNat*2)).off+1,none⟩=some (.int .i64 ((rd_T53 (rd_L7 ac ae) aa).f1))∧w'.cell? (ag.add (((aw)).toNat*2))=some (.int .i64 ((rd_T53 (rd_L7 ac ae) (aw)).f0))∧w'.cell? ⟨(ag.add (((aw)).toNat*2)).block,(ag.add (((aw)).toNat*2)).off+1,none⟩=some (.int .i64 ((rd_T53 (rd_L7 ac ae) (aw)).f1))∧w'.cell? (ag.add ((aa).toNat*2))=some (.int .i64 ((rd_T53 (rd_L7 ac ae) aa).f0))∧w'.cell? ⟨(ag.add ((aa).toNat*2)).block,(ag.add ((aa).toNat*2)).off+1,none⟩=some (.int .i64 ((rd_T53 (rd_L7 ac ae) aa).f1))∧w'.cell? (ag.add ((aa).toNat*2))=some (.int .i64 ((rd_T53 (rd_L7 ac ae) aa).f0))∧w'.cell? ⟨(ag.add ((aa).toNat*2)).block,(ag.add ((aa).toNat*2)).off+1,none⟩=some (.int .i64 ((rd_T53 (rd_L7 ac ae) aa).f1))) (ds:=[]) #[false,false,false,false,false,false,false,false,false,false,false,false,false,false,false,false,false,false,false,false,false,false,false,false,false,false,false,false,false,false,false,false,false,false] (by kernel_rfl) rfl rfl ⟨cl_ af 0,cl_ af 1,cl_ af 2,(cb_ HB ak),(cb_ HB ao),(cb_ HB aH),(cb_ HB aI),(cb_ HB aJ),(cb_ HB aK),(cb_ HB aT),(cb_ HB aU)⟩ (fun hHeld=>?_);refine with_tabW spec_SegOk.tab15 spec_SegOk.bits15 (fun HT_ HW_=>?_);generalize wr.drew=eo at af HB ah ai aA aC aD aG aV aW hHeld ⊢;refine py_ HT_ 0 71 ?_
                      refine py_ HT_ 1 72 ?_
                      refine py_ HT_ 2 73 ?_
                      refine py_ HT_ 3 74 ?_
                      refine ty_ HT_ HW_ 4 75 rfl hHeld (by rintro w' ⟨s0,s1,s2,s3,s4,s5,s6,s7,s8,s9,s10⟩;go_simp;with_reducible rfl) ?_
                      refine oy_ HT_ 5 (some 76) (fun K hK=>?_);refine gs_ Tryd.func24 #[.int .i64 a0,.agg #[.int .i64 ((rd_T53 (rd_L7 ac ae) aa).f0),.int .i64 ((rd_T53 (rd_L7 ac ae) aa).f1)]] (h:=?_);with_reducible refine(spec_SymOk.calls a0 ((rd_T53 (rd_L7 ac ae) aa).f0) ((rd_T53 (rd_L7 ac ae) aa).f1) true _ A24.out).mono ?_
                      rintro e ep ⟨rfl,hb⟩;refine⟨_,rfl,?_⟩;replace af:=bb_ af hb;replace HB:=hb1_ HB hb au
                      (try clear hb)
                      (try clear hb2)
                      (try clear hk)
                      (try clear hi)
                      refine hK.out _ _ ⟨cl_ af 0,cl_ af 1,cl_ af 2,(cb_ HB ak),(cb_ HB ao),(cb_ HB aH),(cb_ HB aI),(cb_ HB aJ),(cb_ HB aK),(cb_ HB aT),(cb_ HB aU)⟩ (fun hHeld=>?_);clear hK K;refine norm_y 76 (h:=?_)
                      refine py_ HT_ 6 77 ?_
                      refine py_ HT_ 7 78 ?_
                      refine py_ HT_ 8 79 ?_
                      refine py_ HT_ 9 80 ?_
                      refine py_ HT_ 10 81 ?_
                      refine py_ HT_ 11 82 ?_
                      refine py_ HT_ 12 83 ?_
                      refine py_ HT_ 13 84 ?_
                      refine py_ HT_ 14 85 ?_
                      refine py_ HT_ 16 87 ?_
                      refine py_ HT_ 17 88 ?_
                      refine py_ HT_ 18 89 ?_
                      refine ty_ HT_ HW_ 15 86 rfl hHeld (by rintro w' ⟨s0,s1,s2,s3,s4,s5,s6,s7,s8,s9,s10⟩;go_simp;with_reducible rfl) ?_
                      refine ty_ HT_ HW_ 19 90 rfl hHeld (by rintro w' ⟨s0,s1,s2,s3,s4,s5,s6,s7,s8,s9,s10⟩;go_simp;with_reducible rfl) ?_
                      refine oy_ HT_ 20 (some 91) (fun K hK=>?_);refine goes_ Tryd.func25 (by kernel_rfl) rfl #[.agg #[.int .i64 ((rd_T53 (rd_L7 ac ae) (aw)).f0),.int .i64 ((rd_T53 (rd_L7 ac ae) (aw)).f1)],.agg #[.int .i64 ((rd_T53 (rd_L7 ac ae) aa).f0),.int .i64 ((rd_T53 (rd_L7 ac ae) aa).f1)]] (by rfl) rfl rfl (by(try simp only [List.map_toArray,List.map_cons,List.map_nil]);first|done|(simp only [br];rfl)|rfl|(simp only [List.length_drop,List.length_take];rfl)) ?_;with_reducible refine(spec_SymLess.calls ((rd_T53 (rd_L7 ac ae) (aw)).f0) ((rd_T53 (rd_L7 ac ae) (aw)).f1) ((rd_T53 (rd_L7 ac ae) aa).f0) ((rd_T53 (rd_L7 ac ae) aa).f1) true _ A30.out).mono ?_
                      rintro e eq ⟨rfl,hb⟩;refine⟨_,rfl,?_⟩;replace af:=bb_ af hb;replace HB:=hb1_ HB hb au
                      (try clear hb)
                      (try clear hb2)
                      (try clear hk)
                      (try clear hi)
                      refine hK.out _ _ ⟨cl_ af 0,cl_ af 1,cl_ af 2,(cb_ HB ak),(cb_ HB ao),(cb_ HB aH),(cb_ HB aI),(cb_ HB aJ),(cb_ HB aK),(cb_ HB aT),(cb_ HB aU)⟩ (fun hHeld=>?_);clear hK K;refine norm_y 91 (h:=?_)
                      refine py_ HT_ 21 92 ?_
                      refine py_ HT_ 22 93 ?_
                      refine py_ HT_ 23 94 ?_
                      refine py_ HT_ 24 95 ?_
                      refine py_ HT_ 26 97 ?_
                      refine py_ HT_ 27 98 ?_
                      refine py_ HT_ 28 99 ?_
                      refine py_ HT_ 31 102 ?_
                      refine ty_ HT_ HW_ 25 96 rfl hHeld (by rintro w' ⟨s0,s1,s2,s3,s4,s5,s6,s7,s8,s9,s10⟩;go_simp;with_reducible rfl) ?_
                      refine ty_ HT_ HW_ 29 100 rfl hHeld (by rintro w' ⟨s0,s1,s2,s3,s4,s5,s6,s7,s8,s9,s10⟩;go_simp;with_reducible rfl) ?_
                      refine oy_ HT_ 30 (some 101) (fun K hK=>?_);refine gs_ Tryd.func26 #[.agg #[.slice (some bp) ac.length bk,.slice bi aj.length bn,.slice bj ar.length bo],.agg #[.int .i64 ((rd_T53 (rd_L7 ac ae) aa).f0),.int .i64 ((rd_T53 (rd_L7 ac ae) aa).f1)]] (h:=?_);with_reducible refine(spec_l10In.calls k4 _ _ ac _ _ aj _ _ ar ((rd_T53 (rd_L7 ac ae) aa).f0) ((rd_T53 (rd_L7 ac ae) aa).f1) bX _ ?aZ ?a8 ?a9 ?ba ?bc ?bf A32.out).mono ?_
                      (case aZ=>exact sq_c (Kd.C_below bz.out HB.out))
                      (case a8=>exact bN.out)
                      (case a9=>exact sq_c (Kd.C_below bq.out HB.out))
                      (case ba=>exact bO.out)
                      (case bc=>exact sq_c (Kd.C_below bQ.out HB.out))
                      (case bf=>exact bP.out)
                      rintro e er ⟨rfl,hb⟩;refine⟨_,rfl,?_⟩;replace af:=bb_ af hb;replace HB:=hb1_ HB hb au
                      (try clear hb)
                      (try clear hb2)
                      (try clear hk)
                      (try clear hi)
                      refine hK.out _ _ ⟨cl_ af 0,cl_ af 1,cl_ af 2,(cb_ HB ak),(cb_ HB ao),(cb_ HB aH),(cb_ HB aI),(cb_ HB aJ),(cb_ HB aK),(cb_ HB aT),(cb_ HB aU)⟩ (fun hHeld=>?_);clear hK K;refine norm_y 101 (h:=?_)
                      refine py_ HT_ 32 103 ?_
                      refine py_ HT_ 33 104 ?_
                      refine done_ (done_of HT_.out (by kernel_rfl)) ?_
                      try go_wp2
                      go_roundg k4
                      case measure=>have:=HJ3.out;have:=HK2.out;have:=HJ17.out;have:=HK4.out;omega
                      case rel=>exact⟨(wrap64 (aa+1)),sr_,H',⟨by have:=HJ3.out;have:=HK2.out;have:=HJ17.out;have:=HK4.out;omega⟩,bk_ af,⟨sq_below1 HB.out au.out⟩⟩
                     ·
                      rw [if_neg c33]at H;have dq:(bX == ae)=false:=beq_eq_false_iff_ne.mpr c33;have dr:(bX != ae)=true:=bne_iff_ne.mpr c33;obtain rfl:=Option.some.inj H
                      try go_wp2
                      replace af:=bd_ af;replace HB:=hd_ HB;have aX:0≤(aa:Int):=sq_dec;have aY:aa<((rd_L7 ac ae).length:Int):=sq_dec;obtain⟨ag,bS,ah,ai⟩:=at_T53 az.out aa aX aY;have ao:=ai;have ak:=ah;cases bS;replace ah:=cb_ HB ah;replace ai:=cb_ HB ai;replace aX:=eq_true aX;replace aY:=eq_true aY;have bT:0≤((aw):Int):=sq_dec;have bV:(aw)<((rd_L7 ac ae).length:Int):=sq_dec;obtain⟨cd,cN,aA,aC⟩:=at_T53 az.out (aw) bT bV;have aI:=aC;have aH:=aA;obtain rfl:ag=cd:=(by injection cN);replace aA:=cb_ HB aA;replace aC:=cb_ HB aC;replace bT:=eq_true bT;replace bV:=eq_true bV;have bU:0≤(aa:Int):=sq_dec;have bW:aa<((rd_L7 ac ae).length:Int):=sq_dec;obtain⟨cf,cO,aD,aG⟩:=at_T53 az.out aa bU bW;have aK:=aG;have aJ:=aD;obtain rfl:ag=cf:=(by injection cO);replace aD:=cb_ HB aD;replace aG:=cb_ HB aG;replace bU:=eq_true bU;replace bW:=eq_true bW;have cq:0≤(aa:Int):=sq_dec;have cx:aa<((rd_L7 ac ae).length:Int):=sq_dec;obtain⟨cI,dg,aV,aW⟩:=at_T53 az.out aa cq cx;have aU:=aW;have aT:=aV;obtain rfl:ag=cI:=(by injection dg);replace aV:=cb_ HB aV;replace aW:=cb_ HB aW;replace cq:=eq_true cq;replace cx:=eq_true cx;refine start_ (n:=34) (S:=fun w'=>w'.cell? ⟨aQ,0,none⟩=some (.slice (some bp) ac.length bk)∧w'.cell? ⟨aQ,1,none⟩=some (.slice bi aj.length bn)∧w'.cell? ⟨aQ,2,none⟩=some (.slice bj ar.length bo)∧w'.cell? (ag.add ((aa).toNat*2))=some (.int .i64 ((rd_T53 (rd_L7 ac ae) aa).f0))∧w'.cell? ⟨(ag.add ((aa).toNat*2)).block,(ag.add ((aa).toNat*2)).off+1,none⟩=some (.int .i64 ((rd_T53 (rd_L7 ac ae) aa).f1))∧w'.cell? (ag.add (((aw)).toNat*2))=some (.int .i64 ((rd_T53 (rd_L7 ac ae) (aw)).f0))∧w'.cell? ⟨(ag.add (((aw)).toNat*2)).block,(ag.add (((aw)).toNat*2)).off+1,none⟩=some (.int .i64 ((rd_T53 (rd_L7 ac ae) (aw)).f1))∧w'.cell? (ag.add ((aa).toNat*2))=some (.int .i64 ((rd_T53 (rd_L7 ac ae) aa).f0))∧w'.cell? ⟨(ag.add ((aa).toNat*2)).block,(ag.add ((aa).toNat*2)).off+1,none⟩=some (.int .i64 ((rd_T53 (rd_L7 ac ae) aa).f1))∧w'.cell? (ag.add ((aa).toNat*2))=some (.int .i64 ((rd_T53 (rd_L7 ac ae) aa).f0))∧w'.cell? ⟨(ag.add ((aa).toNat*2)).block,(ag.add ((aa).toNat*2)).off+1,none⟩=some (.int .i64 ((rd_T53 (rd_L7 ac ae) aa).f1))) (ds:=[]) #[false,false,false,false,false,false,false,false,false,false,false,false,false,false,false,false,false,false,false,false,false,false,false,false,false,false,false,false,false,false,false,false,false,false] (by kernel_rfl) rfl rfl ⟨cl_ af 0,cl_ af 1,cl_ af 2,(cb_ HB ak),(cb_ HB ao),(cb_ HB aH),(cb_ HB aI),(cb_ HB aJ),(cb_ HB aK),(cb_ HB aT),(cb_ HB aU)⟩ (fun hHeld=>?_);refine with_tabW spec_SegOk.tab15 spec_SegOk.bits15 (fun HT_ HW_=>?_);generalize wr.drew=es at af HB ah ai aA aC aD aG aV aW hHeld ⊢;refine py_ HT_ 0 71 ?_
                      refine py_ HT_ 1 72 ?_
                      refine py_ HT_ 2 73 ?_
                      refine py_ HT_ 3 74 ?_
                      refine ty_ HT_ HW_ 4 75 rfl hHeld (by rintro w' ⟨s0,s1,s2,s3,s4,s5,s6,s7,s8,s9,s10⟩;go_simp;with_reducible rfl) ?_
                      refine oy_ HT_ 5 (some 76) (fun K hK=>?_);refine gs_ Tryd.func24 #[.int .i64 a0,.agg #[.int .i64 ((rd_T53 (rd_L7 ac ae) aa).f0),.int .i64 ((rd_T53 (rd_L7 ac ae) aa).f1)]] (h:=?_);with_reducible refine(spec_SymOk.calls a0 ((rd_T53 (rd_L7 ac ae) aa).f0) ((rd_T53 (rd_L7 ac ae) aa).f1) true _ A24.out).mono ?_
                      rintro e et ⟨rfl,hb⟩;refine⟨_,rfl,?_⟩;replace af:=bb_ af hb;replace HB:=hb1_ HB hb au
                      (try clear hb)
                      (try clear hb2)
                      (try clear hk)
                      (try clear hi)
                      refine hK.out _ _ ⟨cl_ af 0,cl_ af 1,cl_ af 2,(cb_ HB ak),(cb_ HB ao),(cb_ HB aH),(cb_ HB aI),(cb_ HB aJ),(cb_ HB aK),(cb_ HB aT),(cb_ HB aU)⟩ (fun hHeld=>?_);clear hK K;refine norm_y 76 (h:=?_)
                      refine py_ HT_ 6 77 ?_
                      refine py_ HT_ 7 78 ?_
                      refine py_ HT_ 8 79 ?_
                      refine py_ HT_ 9 80 ?_
                      refine py_ HT_ 10 81 ?_
                      refine py_ HT_ 11 82 ?_
                      refine py_ HT_ 12 83 ?_
                      refine py_ HT_ 13 84 ?_
                      refine py_ HT_ 14 85 ?_
                      refine py_ HT_ 16 87 ?_
                      refine py_ HT_ 17 88 ?_
                      refine py_ HT_ 18 89 ?_
                      refine ty_ HT_ HW_ 15 86 rfl hHeld (by rintro w' ⟨s0,s1,s2,s3,s4,s5,s6,s7,s8,s9,s10⟩;go_simp;with_reducible rfl) ?_
                      refine ty_ HT_ HW_ 19 90 rfl hHeld (by rintro w' ⟨s0,s1,s2,s3,s4,s5,s6,s7,s8,s9,s10⟩;go_simp;with_reducible rfl) ?_
                      refine oy_ HT_ 20 (some 91) (fun K hK=>?_);refine goes_ Tryd.func25 (by kernel_rfl) rfl #[.agg #[.int .i64 ((rd_T53 (rd_L7 ac ae) (aw)).f0),.int .i64 ((rd_T53 (rd_L7 ac ae) (aw)).f1)],.agg #[.int .i64 ((rd_T53 (rd_L7 ac ae) aa).f0),.int .i64 ((rd_T53 (rd_L7 ac ae) aa).f1)]] (by rfl) rfl rfl (by(try simp only [List.map_toArray,List.map_cons,List.map_nil]);first|done|(simp only [br];rfl)|rfl|(simp only [List.length_drop,List.length_take];rfl)) ?_;with_reducible refine(spec_SymLess.calls ((rd_T53 (rd_L7 ac ae) (aw)).f0) ((rd_T53 (rd_L7 ac ae) (aw)).f1) ((rd_T53 (rd_L7 ac ae) aa).f0) ((rd_T53 (rd_L7 ac ae) aa).f1) true _ A30.out).mono ?_
                      rintro e eu ⟨rfl,hb⟩;refine⟨_,rfl,?_⟩;replace af:=bb_ af hb;replace HB:=hb1_ HB hb au
                      (try clear hb)
                      (try clear hb2)
                      (try clear hk)
                      (try clear hi)
                      refine hK.out _ _ ⟨cl_ af 0,cl_ af 1,cl_ af 2,(cb_ HB ak),(cb_ HB ao),(cb_ HB aH),(cb_ HB aI),(cb_ HB aJ),(cb_ HB aK),(cb_ HB aT),(cb_ HB aU)⟩ (fun hHeld=>?_);clear hK K;refine norm_y 91 (h:=?_)
                      refine py_ HT_ 21 92 ?_
                      refine py_ HT_ 22 93 ?_
                      refine py_ HT_ 23 94 ?_
                      refine py_ HT_ 24 95 ?_
                      refine py_ HT_ 26 97 ?_
                      refine py_ HT_ 27 98 ?_
                      refine py_ HT_ 28 99 ?_
                      refine py_ HT_ 31 102 ?_
                      refine ty_ HT_ HW_ 25 96 rfl hHeld (by rintro w' ⟨s0,s1,s2,s3,s4,s5,s6,s7,s8,s9,s10⟩;go_simp;with_reducible rfl) ?_
                      refine ty_ HT_ HW_ 29 100 rfl hHeld (by rintro w' ⟨s0,s1,s2,s3,s4,s5,s6,s7,s8,s9,s10⟩;go_simp;with_reducible rfl) ?_
                      refine oy_ HT_ 30 (some 101) (fun K hK=>?_);refine gs_ Tryd.func26 #[.agg #[.slice (some bp) ac.length bk,.slice bi aj.length bn,.slice bj ar.length bo],.agg #[.int .i64 ((rd_T53 (rd_L7 ac ae) aa).f0),.int .i64 ((rd_T53 (rd_L7 ac ae) aa).f1)]] (h:=?_);with_reducible refine(spec_l10In.calls k4 _ _ ac _ _ aj _ _ ar ((rd_T53 (rd_L7 ac ae) aa).f0) ((rd_T53 (rd_L7 ac ae) aa).f1) bX _ ?aZ ?a8 ?a9 ?ba ?bc ?bf A32.out).mono ?_
                      (case aZ=>exact sq_c (Kd.C_below bz.out HB.out))
                      (case a8=>exact bN.out)
                      (case a9=>exact sq_c (Kd.C_below bq.out HB.out))
                      (case ba=>exact bO.out)
                      (case bc=>exact sq_c (Kd.C_below bQ.out HB.out))
                      (case bf=>exact bP.out)
                      rintro e ev ⟨rfl,hb⟩;refine⟨_,rfl,?_⟩;replace af:=bb_ af hb;replace HB:=hb1_ HB hb au
                      (try clear hb)
                      (try clear hb2)
                      (try clear hk)
                      (try clear hi)
                      refine hK.out _ _ ⟨cl_ af 0,cl_ af 1,cl_ af 2,(cb_ HB ak),(cb_ HB ao),(cb_ HB aH),(cb_ HB aI),(cb_ HB aJ),(cb_ HB aK),(cb_ HB aT),(cb_ HB aU)⟩ (fun hHeld=>?_);clear hK K;refine norm_y 101 (h:=?_)
                      refine py_ HT_ 32 103 ?_
                      refine py_ HT_ 33 104 ?_
                      refine done_ (done_of HT_.out (by kernel_rfl)) ?_
                      try go_wp2
                      go_ret
                      exact⟨by first|rfl|(simp [errW_none,errW_some]<;>rfl)|(simp only [← br];first|rfl|(simp [errW_none,errW_some]<;>rfl))|(simp [*,errW_none,errW_some]<;>rfl),sq_below1 HB.out au.out⟩
                    ·
                     replace c31:=Bool.eq_false_iff.mpr c31;subst c31;have H1:=ifn_ H
                     clear H;have H:=H1;clear H1;obtain rfl:=Option.some.inj H
                     try go_wp2
                     replace HB:=hd_ HB;have aX:0≤(aa:Int):=sq_dec;have aY:aa<((rd_L7 ac ae).length:Int):=sq_dec;obtain⟨ag,bS,ah,ai⟩:=at_T53 az.out aa aX aY;have ao:=ai;have ak:=ah;cases bS;replace ah:=cb_ HB ah;replace ai:=cb_ HB ai;replace aX:=eq_true aX;replace aY:=eq_true aY;have bT:0≤((aw):Int):=sq_dec;have bV:(aw)<((rd_L7 ac ae).length:Int):=sq_dec;obtain⟨cd,cN,aA,aC⟩:=at_T53 az.out (aw) bT bV;have aI:=aC;have aH:=aA;obtain rfl:ag=cd:=(by injection cN);replace aA:=cb_ HB aA;replace aC:=cb_ HB aC;replace bT:=eq_true bT;replace bV:=eq_true bV;have bU:0≤(aa:Int):=sq_dec;have bW:aa<((rd_L7 ac ae).length:Int):=sq_dec;obtain⟨cf,cO,aD,aG⟩:=at_T53 az.out aa bU bW;have aK:=aG;have aJ:=aD;obtain rfl:ag=cf:=(by injection cO);replace aD:=cb_ HB aD;replace aG:=cb_ HB aG;replace bU:=eq_true bU;replace bW:=eq_true bW;refine start_ (n:=34) (S:=fun w'=>w'.cell? (ag.add ((aa).toNat*2))=some (.int .i64 ((rd_T53 (rd_L7 ac ae) aa).f0))∧w'.cell? ⟨(ag.add ((aa).toNat*2)).block,(ag.add ((aa).toNat*2)).off+1,none⟩=some (.int .i64 ((rd_T53 (rd_L7 ac ae) aa).f1))∧w'.cell? (ag.add (((aw)).toNat*2))=some (.int .i64 ((rd_T53 (rd_L7 ac ae) (aw)).f0))∧w'.cell? ⟨(ag.add (((aw)).toNat*2)).block,(ag.add (((aw)).toNat*2)).off+1,none⟩=some (.int .i64 ((rd_T53 (rd_L7 ac ae) (aw)).f1))∧w'.cell? (ag.add ((aa).toNat*2))=some (.int .i64 ((rd_T53 (rd_L7 ac ae) aa).f0))∧w'.cell? ⟨(ag.add ((aa).toNat*2)).block,(ag.add ((aa).toNat*2)).off+1,none⟩=some (.int .i64 ((rd_T53 (rd_L7 ac ae) aa).f1))) (ds:=[]) #[false,false,false,false,false,false,false,false,false,false,false,false,false,false,false,false,false,false,false,false,false,false,false,false,false,false,false,false,false,false,false,false,false,false] (by kernel_rfl) rfl rfl ⟨(cb_ HB ak),(cb_ HB ao),(cb_ HB aH),(cb_ HB aI),(cb_ HB aJ),(cb_ HB aK)⟩ (fun hHeld=>?_);refine with_tabW spec_SegOk.tab15 spec_SegOk.bits15 (fun HT_ HW_=>?_);generalize wr.drew=ew at HB ah ai aA aC aD aG hHeld ⊢;refine py_ HT_ 0 71 ?_
                     refine py_ HT_ 1 72 ?_
                     refine py_ HT_ 2 73 ?_
                     refine py_ HT_ 3 74 ?_
                     refine ty_ HT_ HW_ 4 75 rfl hHeld (by rintro w' ⟨s0,s1,s2,s3,s4,s5⟩;go_simp;with_reducible rfl) ?_
                     refine oy_ HT_ 5 (some 76) (fun K hK=>?_);refine gs_ Tryd.func24 #[.int .i64 a0,.agg #[.int .i64 ((rd_T53 (rd_L7 ac ae) aa).f0),.int .i64 ((rd_T53 (rd_L7 ac ae) aa).f1)]] (h:=?_);with_reducible refine(spec_SymOk.calls a0 ((rd_T53 (rd_L7 ac ae) aa).f0) ((rd_T53 (rd_L7 ac ae) aa).f1) true _ A24.out).mono ?_
                     rintro e ex ⟨rfl,hb⟩;refine⟨_,rfl,?_⟩;replace HB:=hb_ HB hb
                     (try clear hb)
                     (try clear hb2)
                     (try clear hk)
                     (try clear hi)
                     refine hK.out _ _ ⟨(cb_ HB ak),(cb_ HB ao),(cb_ HB aH),(cb_ HB aI),(cb_ HB aJ),(cb_ HB aK)⟩ (fun hHeld=>?_);clear hK K;refine norm_y 76 (h:=?_)
                     refine py_ HT_ 6 77 ?_
                     refine py_ HT_ 7 78 ?_
                     refine py_ HT_ 8 79 ?_
                     refine py_ HT_ 9 80 ?_
                     refine py_ HT_ 10 81 ?_
                     refine py_ HT_ 11 82 ?_
                     refine py_ HT_ 12 83 ?_
                     refine py_ HT_ 13 84 ?_
                     refine py_ HT_ 14 85 ?_
                     refine py_ HT_ 16 87 ?_
                     refine py_ HT_ 17 88 ?_
                     refine py_ HT_ 18 89 ?_
                     refine ty_ HT_ HW_ 15 86 rfl hHeld (by rintro w' ⟨s0,s1,s2,s3,s4,s5⟩;go_simp;with_reducible rfl) ?_
                     refine ty_ HT_ HW_ 19 90 rfl hHeld (by rintro w' ⟨s0,s1,s2,s3,s4,s5⟩;go_simp;with_reducible rfl) ?_
                     refine oy_ HT_ 20 (some 91) (fun K hK=>?_);refine goes_ Tryd.func25 (by kernel_rfl) rfl #[.agg #[.int .i64 ((rd_T53 (rd_L7 ac ae) (aw)).f0),.int .i64 ((rd_T53 (rd_L7 ac ae) (aw)).f1)],.agg #[.int .i64 ((rd_T53 (rd_L7 ac ae) aa).f0),.int .i64 ((rd_T53 (rd_L7 ac ae) aa).f1)]] (by rfl) rfl rfl (by(try simp only [List.map_toArray,List.map_cons,List.map_nil]);first|done|(simp only [br];rfl)|rfl|(simp only [List.length_drop,List.length_take];rfl)) ?_;with_reducible refine(spec_SymLess.calls ((rd_T53 (rd_L7 ac ae) (aw)).f0) ((rd_T53 (rd_L7 ac ae) (aw)).f1) ((rd_T53 (rd_L7 ac ae) aa).f0) ((rd_T53 (rd_L7 ac ae) aa).f1) false _ A30.out).mono ?_
                     rintro e ey ⟨rfl,hb⟩;refine⟨_,rfl,?_⟩;replace HB:=hb_ HB hb
                     (try clear hb)
                     (try clear hb2)
                     (try clear hk)
                     (try clear hi)
                     refine hK.out _ _ ⟨(cb_ HB ak),(cb_ HB ao),(cb_ HB aH),(cb_ HB aI),(cb_ HB aJ),(cb_ HB aK)⟩ (fun hHeld=>?_);clear hK K;refine norm_y 91 (h:=?_)
                     refine py_ HT_ 21 92 ?_
                     refine py_ HT_ 22 93 ?_
                     refine py_ HT_ 23 94 ?_
                     refine py_ HT_ 24 95 ?_
                     refine pn_ HT_ 25 96 ?_
                     refine pn_ HT_ 26 97 ?_
                     refine pn_ HT_ 27 98 ?_
                     refine pn_ HT_ 28 99 ?_
                     refine pn_ HT_ 29 100 ?_
                     refine pn_ HT_ 30 101 ?_
                     refine pn_ HT_ 31 102 ?_
                     refine pn_ HT_ 32 103 ?_
                     refine py_ HT_ 33 104 ?_
                     refine done_ (done_of HT_.out (by kernel_rfl)) ?_
                     try go_wp2
                     go_ret
                     exact⟨by first|rfl|(simp [errW_none,errW_some]<;>rfl)|(simp only [← br];first|rfl|(simp [errW_none,errW_some]<;>rfl))|(simp [*,errW_none,errW_some]<;>rfl),sq_below HB.out⟩
                   ·
                    rw [if_neg c29]at H;exact absurd H (by simp)
                  ·
                   rw [if_neg c28]at H;exact absurd H (by simp)
                 ·
                  rw [if_neg c26]at H;have dp:=decide_eq_false (p:=0<aa) c26;clear c26;obtain⟨b8,A45,H⟩:=be_ H;(try dsimp only at H)
                  by_cases c46:b8=ae
                  ·
                   rw [if_pos c46]at H;have cX:(b8 == ae)=true:=beq_iff_eq.mpr c46;have cY:(b8 != ae)=false:=bne_eq_false_iff_eq.mpr c46;clear c46;have H':=am_ H;clear H
                   try go_wp2
                   replace af:=bd_ af;replace HB:=hd_ HB;have aX:0≤(aa:Int):=sq_dec;have aY:aa<((rd_L7 ac ae).length:Int):=sq_dec;obtain⟨ag,bS,ah,ai⟩:=at_T53 az.out aa aX aY;have ao:=ai;have ak:=ah;cases bS;replace ah:=cb_ HB ah;replace ai:=cb_ HB ai;replace aX:=eq_true aX;replace aY:=eq_true aY;have cl:0≤(aa:Int):=sq_dec;have cn:aa<((rd_L7 ac ae).length:Int):=sq_dec;obtain⟨cJ,dh,aM,aN⟩:=at_T53 az.out aa cl cn;have bh:=aN;have bg:=aM;obtain rfl:ag=cJ:=(by injection dh);replace aM:=cb_ HB aM;replace aN:=cb_ HB aN;replace cl:=eq_true cl;replace cn:=eq_true cn;refine start_ (n:=34) (S:=fun w'=>w'.cell? ⟨aQ,0,none⟩=some (.slice (some bp) ac.length bk)∧w'.cell? ⟨aQ,1,none⟩=some (.slice bi aj.length bn)∧w'.cell? ⟨aQ,2,none⟩=some (.slice bj ar.length bo)∧w'.cell? (ag.add ((aa).toNat*2))=some (.int .i64 ((rd_T53 (rd_L7 ac ae) aa).f0))∧w'.cell? ⟨(ag.add ((aa).toNat*2)).block,(ag.add ((aa).toNat*2)).off+1,none⟩=some (.int .i64 ((rd_T53 (rd_L7 ac ae) aa).f1))∧w'.cell? (ag.add ((aa).toNat*2))=some (.int .i64 ((rd_T53 (rd_L7 ac ae) aa).f0))∧w'.cell? ⟨(ag.add ((aa).toNat*2)).block,(ag.add ((aa).toNat*2)).off+1,none⟩=some (.int .i64 ((rd_T53 (rd_L7 ac ae) aa).f1))) (ds:=[]) #[false,false,false,false,false,false,false,false,false,false,false,false,false,false,false,false,false,false,false,false,false,false,false,false,false,false,false,false,false,false,false,false,false,false] (by kernel_rfl) rfl rfl ⟨cl_ af 0,cl_ af 1,cl_ af 2,(cb_ HB ak),(cb_ HB ao),(cb_ HB bg),(cb_ HB bh)⟩ (fun hHeld=>?_);refine with_tabW spec_SegOk.tab15 spec_SegOk.bits15 (fun HT_ HW_=>?_);generalize wr.drew=ez at af HB ah ai aM aN hHeld ⊢;refine py_ HT_ 0 71 ?_
                   refine py_ HT_ 1 72 ?_
                   refine py_ HT_ 2 73 ?_
                   refine py_ HT_ 3 74 ?_
                   refine ty_ HT_ HW_ 4 75 rfl hHeld (by rintro w' ⟨s0,s1,s2,s3,s4,s5,s6⟩;go_simp;with_reducible rfl) ?_
                   refine oy_ HT_ 5 (some 76) (fun K hK=>?_);refine gs_ Tryd.func24 #[.int .i64 a0,.agg #[.int .i64 ((rd_T53 (rd_L7 ac ae) aa).f0),.int .i64 ((rd_T53 (rd_L7 ac ae) aa).f1)]] (h:=?_);with_reducible refine(spec_SymOk.calls a0 ((rd_T53 (rd_L7 ac ae) aa).f0) ((rd_T53 (rd_L7 ac ae) aa).f1) true _ A24.out).mono ?_
                   rintro e eA ⟨rfl,hb⟩;refine⟨_,rfl,?_⟩;replace af:=bb_ af hb;replace HB:=hb1_ HB hb au
                   (try clear hb)
                   (try clear hb2)
                   (try clear hk)
                   (try clear hi)
                   refine hK.out _ _ ⟨cl_ af 0,cl_ af 1,cl_ af 2,(cb_ HB ak),(cb_ HB ao),(cb_ HB bg),(cb_ HB bh)⟩ (fun hHeld=>?_);clear hK K;refine norm_y 76 (h:=?_)
                   refine py_ HT_ 6 77 ?_
                   refine py_ HT_ 7 78 ?_
                   refine py_ HT_ 8 79 ?_
                   refine py_ HT_ 9 80 ?_
                   refine py_ HT_ 10 81 ?_
                   refine pn_ HT_ 11 82 ?_
                   refine pn_ HT_ 12 83 ?_
                   refine pn_ HT_ 13 84 ?_
                   refine pn_ HT_ 14 85 ?_
                   refine pn_ HT_ 15 86 ?_
                   refine pn_ HT_ 16 87 ?_
                   refine pn_ HT_ 17 88 ?_
                   refine pn_ HT_ 18 89 ?_
                   refine pn_ HT_ 19 90 ?_
                   refine pn_ HT_ 20 91 ?_
                   refine pn_ HT_ 21 92 ?_
                   refine py_ HT_ 22 93 ?_
                   refine py_ HT_ 23 94 ?_
                   refine py_ HT_ 24 95 ?_
                   refine py_ HT_ 26 97 ?_
                   refine py_ HT_ 27 98 ?_
                   refine py_ HT_ 28 99 ?_
                   refine py_ HT_ 31 102 ?_
                   refine ty_ HT_ HW_ 25 96 rfl hHeld (by rintro w' ⟨s0,s1,s2,s3,s4,s5,s6⟩;go_simp;with_reducible rfl) ?_
                   refine ty_ HT_ HW_ 29 100 rfl hHeld (by rintro w' ⟨s0,s1,s2,s3,s4,s5,s6⟩;go_simp;with_reducible rfl) ?_
                   refine oy_ HT_ 30 (some 101) (fun K hK=>?_);refine gs_ Tryd.func26 #[.agg #[.slice (some bp) ac.length bk,.slice bi aj.length bn,.slice bj ar.length bo],.agg #[.int .i64 ((rd_T53 (rd_L7 ac ae) aa).f0),.int .i64 ((rd_T53 (rd_L7 ac ae) aa).f1)]] (h:=?_);with_reducible refine(spec_l10In.calls k4 _ _ ac _ _ aj _ _ ar ((rd_T53 (rd_L7 ac ae) aa).f0) ((rd_T53 (rd_L7 ac ae) aa).f1) b8 _ ?aZ ?a8 ?a9 ?ba ?bc ?bf A45.out).mono ?_
                   (case aZ=>exact sq_c (Kd.C_below bz.out HB.out))
                   (case a8=>exact bN.out)
                   (case a9=>exact sq_c (Kd.C_below bq.out HB.out))
                   (case ba=>exact bO.out)
                   (case bc=>exact sq_c (Kd.C_below bQ.out HB.out))
                   (case bf=>exact bP.out)
                   rintro e eB ⟨rfl,hb⟩;refine⟨_,rfl,?_⟩;replace af:=bb_ af hb;replace HB:=hb1_ HB hb au
                   (try clear hb)
                   (try clear hb2)
                   (try clear hk)
                   (try clear hi)
                   refine hK.out _ _ ⟨cl_ af 0,cl_ af 1,cl_ af 2,(cb_ HB ak),(cb_ HB ao),(cb_ HB bg),(cb_ HB bh)⟩ (fun hHeld=>?_);clear hK K;refine norm_y 101 (h:=?_)
                   refine py_ HT_ 32 103 ?_
                   refine py_ HT_ 33 104 ?_
                   refine done_ (done_of HT_.out (by kernel_rfl)) ?_
                   try go_wp2
                   go_roundg k4
                   case measure=>have:=HJ3.out;have:=HK2.out;have:=HJ17.out;have:=HK4.out;omega
                   case rel=>exact⟨(wrap64 (aa+1)),sr_,H',⟨by have:=HJ3.out;have:=HK2.out;have:=HJ17.out;have:=HK4.out;omega⟩,bk_ af,⟨sq_below1 HB.out au.out⟩⟩
                  ·
                   rw [if_neg c46]at H;have cX:(b8 == ae)=false:=beq_eq_false_iff_ne.mpr c46;have cY:(b8 != ae)=true:=bne_iff_ne.mpr c46;obtain rfl:=Option.some.inj H
                   try go_wp2
                   replace af:=bd_ af;replace HB:=hd_ HB;have aX:0≤(aa:Int):=sq_dec;have aY:aa<((rd_L7 ac ae).length:Int):=sq_dec;obtain⟨ag,bS,ah,ai⟩:=at_T53 az.out aa aX aY;have ao:=ai;have ak:=ah;cases bS;replace ah:=cb_ HB ah;replace ai:=cb_ HB ai;replace aX:=eq_true aX;replace aY:=eq_true aY;have cl:0≤(aa:Int):=sq_dec;have cn:aa<((rd_L7 ac ae).length:Int):=sq_dec;obtain⟨cJ,dh,aM,aN⟩:=at_T53 az.out aa cl cn;have bh:=aN;have bg:=aM;obtain rfl:ag=cJ:=(by injection dh);replace aM:=cb_ HB aM;replace aN:=cb_ HB aN;replace cl:=eq_true cl;replace cn:=eq_true cn;refine start_ (n:=34) (S:=fun w'=>w'.cell? ⟨aQ,0,none⟩=some (.slice (some bp) ac.length bk)∧w'.cell? ⟨aQ,1,none⟩=some (.slice bi aj.length bn)∧w'.cell? ⟨aQ,2,none⟩=some (.slice bj ar.length bo)∧w'.cell? (ag.add ((aa).toNat*2))=some (.int .i64 ((rd_T53 (rd_L7 ac ae) aa).f0))∧w'.cell? ⟨(ag.add ((aa).toNat*2)).block,(ag.add ((aa).toNat*2)).off+1,none⟩=some (.int .i64 ((rd_T53 (rd_L7 ac ae) aa).f1))∧w'.cell? (ag.add ((aa).toNat*2))=some (.int .i64 ((rd_T53 (rd_L7 ac ae) aa).f0))∧w'.cell? ⟨(ag.add ((aa).toNat*2)).block,(ag.add ((aa).toNat*2)).off+1,none⟩=some (.int .i64 ((rd_T53 (rd_L7 ac ae) aa).f1))) (ds:=[]) #[false,false,false,false,false,false,false,false,false,false,false,false,false,false,false,false,false,false,false,false,false,false,false,false,false,false,false,false,false,false,false,false,false,false] (by kernel_rfl) rfl rfl ⟨cl_ af 0,cl_ af 1,cl_ af 2,(cb_ HB ak),(cb_ HB ao),(cb_ HB bg),(cb_ HB bh)⟩ (fun hHeld=>?_);refine with_tabW spec_SegOk.tab15 spec_SegOk.bits15 (fun HT_ HW_=>?_);generalize wr.drew=eC at af HB ah ai aM aN hHeld ⊢;refine py_ HT_ 0 71 ?_
                   refine py_ HT_ 1 72 ?_
                   refine py_ HT_ 2 73 ?_
                   refine py_ HT_ 3 74 ?_
                   refine ty_ HT_ HW_ 4 75 rfl hHeld (by rintro w' ⟨s0,s1,s2,s3,s4,s5,s6⟩;go_simp;with_reducible rfl) ?_
                   refine oy_ HT_ 5 (some 76) (fun K hK=>?_);refine gs_ Tryd.func24 #[.int .i64 a0,.agg #[.int .i64 ((rd_T53 (rd_L7 ac ae) aa).f0),.int .i64 ((rd_T53 (rd_L7 ac ae) aa).f1)]] (h:=?_);with_reducible refine(spec_SymOk.calls a0 ((rd_T53 (rd_L7 ac ae) aa).f0) ((rd_T53 (rd_L7 ac ae) aa).f1) true _ A24.out).mono ?_
                   rintro e eD ⟨rfl,hb⟩;refine⟨_,rfl,?_⟩;replace af:=bb_ af hb;replace HB:=hb1_ HB hb au
                   (try clear hb)
                   (try clear hb2)
                   (try clear hk)
                   (try clear hi)
                   refine hK.out _ _ ⟨cl_ af 0,cl_ af 1,cl_ af 2,(cb_ HB ak),(cb_ HB ao),(cb_ HB bg),(cb_ HB bh)⟩ (fun hHeld=>?_);clear hK K;refine norm_y 76 (h:=?_)
                   refine py_ HT_ 6 77 ?_
                   refine py_ HT_ 7 78 ?_
                   refine py_ HT_ 8 79 ?_
                   refine py_ HT_ 9 80 ?_
                   refine py_ HT_ 10 81 ?_
                   refine pn_ HT_ 11 82 ?_
                   refine pn_ HT_ 12 83 ?_
                   refine pn_ HT_ 13 84 ?_
                   refine pn_ HT_ 14 85 ?_
                   refine pn_ HT_ 15 86 ?_
                   refine pn_ HT_ 16 87 ?_
                   refine pn_ HT_ 17 88 ?_
                   refine pn_ HT_ 18 89 ?_
                   refine pn_ HT_ 19 90 ?_
                   refine pn_ HT_ 20 91 ?_
                   refine pn_ HT_ 21 92 ?_
                   refine py_ HT_ 22 93 ?_
                   refine py_ HT_ 23 94 ?_
                   refine py_ HT_ 24 95 ?_
                   refine py_ HT_ 26 97 ?_
                   refine py_ HT_ 27 98 ?_
                   refine py_ HT_ 28 99 ?_
                   refine py_ HT_ 31 102 ?_
                   refine ty_ HT_ HW_ 25 96 rfl hHeld (by rintro w' ⟨s0,s1,s2,s3,s4,s5,s6⟩;go_simp;with_reducible rfl) ?_
                   refine ty_ HT_ HW_ 29 100 rfl hHeld (by rintro w' ⟨s0,s1,s2,s3,s4,s5,s6⟩;go_simp;with_reducible rfl) ?_
                   refine oy_ HT_ 30 (some 101) (fun K hK=>?_);refine gs_ Tryd.func26 #[.agg #[.slice (some bp) ac.length bk,.slice bi aj.length bn,.slice bj ar.length bo],.agg #[.int .i64 ((rd_T53 (rd_L7 ac ae) aa).f0),.int .i64 ((rd_T53 (rd_L7 ac ae) aa).f1)]] (h:=?_);with_reducible refine(spec_l10In.calls k4 _ _ ac _ _ aj _ _ ar ((rd_T53 (rd_L7 ac ae) aa).f0) ((rd_T53 (rd_L7 ac ae) aa).f1) b8 _ ?aZ ?a8 ?a9 ?ba ?bc ?bf A45.out).mono ?_
                   (case aZ=>exact sq_c (Kd.C_below bz.out HB.out))
                   (case a8=>exact bN.out)
                   (case a9=>exact sq_c (Kd.C_below bq.out HB.out))
                   (case ba=>exact bO.out)
                   (case bc=>exact sq_c (Kd.C_below bQ.out HB.out))
                   (case bf=>exact bP.out)
                   rintro e eE ⟨rfl,hb⟩;refine⟨_,rfl,?_⟩;replace af:=bb_ af hb;replace HB:=hb1_ HB hb au
                   (try clear hb)
                   (try clear hb2)
                   (try clear hk)
                   (try clear hi)
                   refine hK.out _ _ ⟨cl_ af 0,cl_ af 1,cl_ af 2,(cb_ HB ak),(cb_ HB ao),(cb_ HB bg),(cb_ HB bh)⟩ (fun hHeld=>?_);clear hK K;refine norm_y 101 (h:=?_)
                   refine py_ HT_ 32 103 ?_
                   refine py_ HT_ 33 104 ?_
                   refine done_ (done_of HT_.out (by kernel_rfl)) ?_
                   try go_wp2
                   go_ret
                   exact⟨lf_,sq_below1 HB.out au.out⟩
                ·
                 replace c25:=Bool.eq_false_iff.mpr c25;subst c25;have H1:=ifn_ H
                 clear H;have H:=H1;clear H1;obtain rfl:=Option.some.inj H
                 try go_wp2
                 replace HB:=hd_ HB;have aX:0≤(aa:Int):=sq_dec;have aY:aa<((rd_L7 ac ae).length:Int):=sq_dec;obtain⟨ag,bS,ah,ai⟩:=at_T53 az.out aa aX aY;have ao:=ai;have ak:=ah;cases bS;replace ah:=cb_ HB ah;replace ai:=cb_ HB ai;replace aX:=eq_true aX;replace aY:=eq_true aY;refine start_ (n:=34) (S:=fun w'=>w'.cell? (ag.add ((aa).toNat*2))=some (.int .i64 ((rd_T53 (rd_L7 ac ae) aa).f0))∧w'.cell? ⟨(ag.add ((aa).toNat*2)).block,(ag.add ((aa).toNat*2)).off+1,none⟩=some (.int .i64 ((rd_T53 (rd_L7 ac ae) aa).f1))) (ds:=[]) #[false,false,false,false,false,false,false,false,false,false,false,false,false,false,false,false,false,false,false,false,false,false,false,false,false,false,false,false,false,false,false,false,false,false] (by kernel_rfl) rfl rfl ⟨(cb_ HB ak),(cb_ HB ao)⟩ (fun hHeld=>?_);refine with_tabW spec_SegOk.tab15 spec_SegOk.bits15 (fun HT_ HW_=>?_);generalize wr.drew=eF at HB ah ai hHeld ⊢;refine py_ HT_ 0 71 ?_
                 refine py_ HT_ 1 72 ?_
                 refine py_ HT_ 2 73 ?_
                 refine py_ HT_ 3 74 ?_
                 refine ty_ HT_ HW_ 4 75 rfl hHeld (by rintro w' ⟨s0,s1⟩;go_simp;with_reducible rfl) ?_
                 refine oy_ HT_ 5 (some 76) (fun K hK=>?_);refine gs_ Tryd.func24 #[.int .i64 a0,.agg #[.int .i64 ((rd_T53 (rd_L7 ac ae) aa).f0),.int .i64 ((rd_T53 (rd_L7 ac ae) aa).f1)]] (h:=?_);with_reducible refine(spec_SymOk.calls a0 ((rd_T53 (rd_L7 ac ae) aa).f0) ((rd_T53 (rd_L7 ac ae) aa).f1) false _ A24.out).mono ?_
                 rintro e eG ⟨rfl,hb⟩;refine⟨_,rfl,?_⟩;replace HB:=hb_ HB hb
                 (try clear hb)
                 (try clear hb2)
                 (try clear hk)
                 (try clear hi)
                 refine hK.out _ _ ⟨(cb_ HB ak),(cb_ HB ao)⟩ (fun hHeld=>?_);clear hK K;refine norm_y 76 (h:=?_)
                 refine py_ HT_ 6 77 ?_
                 refine py_ HT_ 7 78 ?_
                 refine pn_ HT_ 8 79 ?_
                 refine pn_ HT_ 9 80 ?_
                 refine pn_ HT_ 10 81 ?_
                 refine pn_ HT_ 11 82 ?_
                 refine pn_ HT_ 12 83 ?_
                 refine pn_ HT_ 13 84 ?_
                 refine pn_ HT_ 14 85 ?_
                 refine pn_ HT_ 15 86 ?_
                 refine pn_ HT_ 16 87 ?_
                 refine pn_ HT_ 17 88 ?_
                 refine pn_ HT_ 18 89 ?_
                 refine pn_ HT_ 19 90 ?_
                 refine pn_ HT_ 20 91 ?_
                 refine pn_ HT_ 21 92 ?_
                 refine pn_ HT_ 22 93 ?_
                 refine py_ HT_ 23 94 ?_
                 refine py_ HT_ 24 95 ?_
                 refine pn_ HT_ 25 96 ?_
                 refine pn_ HT_ 26 97 ?_
                 refine pn_ HT_ 27 98 ?_
                 refine pn_ HT_ 28 99 ?_
                 refine pn_ HT_ 29 100 ?_
                 refine pn_ HT_ 30 101 ?_
                 refine pn_ HT_ 31 102 ?_
                 refine pn_ HT_ 32 103 ?_
                 refine py_ HT_ 33 104 ?_
                 refine done_ (done_of HT_.out (by kernel_rfl)) ?_
                 try go_wp2
                 go_ret
                 exact⟨lf_,sq_below HB.out⟩
               ·
                rw [if_neg c23]at H;exact absurd H (by simp)
              ·
               rw [if_neg c22]at H;have cW:=decide_eq_false (p:=aa<((rd_L7 ac ae).length:Int)) c22;clear c22;have H':=am_ H;clear H
               go_wp2
               go_roundg k4
               case measure=>have:=HJ3.out;have:=HK2.out;have:=HJ17.out;have:=HK4.out;omega
               case rel=>exact⟨((wrap64 (cp+((rd_L7 ac ae).length:Int)))),(wrap64 (ae+1)),sr_,sr_,H',⟨by have:=HJ3.out;have:=HK2.out;have:=HJ17.out;have:=HK4.out;omega⟩,bk_ af,⟨sq_below1 HB.out au.out⟩⟩
        ·
         rw [if_neg c17]at H;exact absurd H (by simp)
       ·
        rw [if_neg c16]at H;exact absurd H (by simp)
      ·
       rw [if_neg c15]at H;have cz:=decide_eq_false (p:=ae<(ac.length:Int)) c15;clear c15;have H':=am_ H;clear H
       go_wp2
       go_loopg [12] k2 (fun kq v12 w'=>∃ (ax:Int),v12=.int .i64 ax∧Aside0 (spec_SegOk.l2 kq a1 (ac.length:Int) ax ac aj ar=some r)∧Aside0 (kq≤k2)∧Aside0 (w'.heap[aQ]?=some (.cells #[(.slice cb ac.length bk),(.slice bi aj.length bn),(.slice bj ar.length bo)] 32 (0,0)))∧Aside0 (Below w.heap.size w w'))
       case atStart=>exact⟨(0),sr_,H',⟨Nat.le_refl _⟩,bk_ af,⟨sq_below1 HB.out au.out⟩⟩
       case round =>
        clear H'
        obtain⟨ax,rfl,HA,HK3,af,HB⟩:=hrel;cases gk with
        |zero=>exact absurd HA.out (by simp [spec_SegOk.l2])
        |succ k3 =>
         have H:=HA.out;clear HA;simp only [spec_SegOk.l2]at H
         by_cases c55:ax<(wrap64 ((ac.length:Int)-1))
         ·
          rw [if_pos c55]at H;have dt:=decide_eq_true (p:=ax<(wrap64 ((ac.length:Int)-1))) c55;clear c55
          by_cases c56:0≤ax
          ·
           rw [if_pos c56]at H;have el:=decide_eq_true (p:=0≤ax) c56;clear c56
           by_cases c57:ax<(aj.length:Int)
           ·
            rw [if_pos c57]at H;have em:=decide_eq_true (p:=ax<(aj.length:Int)) c57;clear c57;obtain⟨dk,A58,H⟩:=be_ H;(try dsimp only at H)
            by_cases c59:dk=true
            ·
             subst c59;have H1:=ifp_ H
             clear H;have H:=H1;clear H1;have H':=am_ H;clear H;obtain⟨dA,dB,dC,dP,dQ,dR⟩:=cz3_ af;have cr:0≤(ax:Int):=sq_dec;have cy:ax<(aj.length:Int):=sq_dec;obtain⟨dn,di,bu,bw,bx⟩:=at_T60 bq.out ax cr cy;cases di;replace bu:=cb_ HB bu;replace bw:=cb_ HB bw;replace bx:=cb_ HB bx;replace cr:=eq_true cr;replace cy:=eq_true cy
             go_wp2_with (first|((with_reducible refine gate_callee (f:=27) rfl ?_);refine gl_ 116 Tryd.func27 #[.agg #[.int .i64 ((rd_T60 aj ax).f0.f0),.int .i64 ((rd_T60 aj ax).f0.f1),.bool ((rd_T60 aj ax).f1)]] (h:=?_);(with_reducible refine(spec_ValOk.calls ((rd_T60 aj ax).f0.f0) ((rd_T60 aj ax).f0.f1) ((rd_T60 aj ax).f1) true _ A58.out).mono ?_);rintro e eH ⟨rfl,hb⟩;refine⟨_,rfl,?_⟩;replace af:=bb_ af hb;replace HB:=hb1_ HB hb au;(try clear hb)))
             go_roundg k3
             case measure=>have:=HJ3.out;have:=HK2.out;have:=HK3.out;omega
             case rel=>exact⟨(wrap64 (ax+1)),sr_,H',⟨by have:=HJ3.out;have:=HK2.out;have:=HK3.out;omega⟩,bk_ af,⟨sq_below1 HB.out au.out⟩⟩
            ·
             replace c59:=Bool.eq_false_iff.mpr c59;subst c59;have H1:=ifn_ H
             clear H;have H:=H1;clear H1;obtain rfl:=Option.some.inj H;obtain⟨dD,dE,dF,dS,dT,dU⟩:=cz3_ af;have cr:0≤(ax:Int):=sq_dec;have cy:ax<(aj.length:Int):=sq_dec;obtain⟨dn,di,bu,bw,bx⟩:=at_T60 bq.out ax cr cy;cases di;replace bu:=cb_ HB bu;replace bw:=cb_ HB bw;replace bx:=cb_ HB bx;replace cr:=eq_true cr;replace cy:=eq_true cy
             go_wp2_with (first|((with_reducible refine gate_callee (f:=27) rfl ?_);refine gl_ 116 Tryd.func27 #[.agg #[.int .i64 ((rd_T60 aj ax).f0.f0),.int .i64 ((rd_T60 aj ax).f0.f1),.bool ((rd_T60 aj ax).f1)]] (h:=?_);(with_reducible refine(spec_ValOk.calls ((rd_T60 aj ax).f0.f0) ((rd_T60 aj ax).f0.f1) ((rd_T60 aj ax).f1) false _ A58.out).mono ?_);rintro e eI ⟨rfl,hb⟩;refine⟨_,rfl,?_⟩;replace HB:=hb_ HB hb;(try clear hb)))
             go_ret
             exact⟨lf_,sq_below HB.out⟩
           ·
            rw [if_neg c57]at H;exact absurd H (by simp)
          ·
           rw [if_neg c56]at H;exact absurd H (by simp)
         ·
          rw [if_neg c55]at H;have dt:=decide_eq_false (p:=ax<(wrap64 ((ac.length:Int)-1))) c55;clear c55;obtain⟨b9,A64,H⟩:=be_ H;(try dsimp only at H)
          by_cases c65:b9=0
          ·
           rw [if_pos c65]at H;have dw:(b9 == 0)=true:=beq_iff_eq.mpr c65;have dx:(b9 != 0)=false:=bne_eq_false_iff_eq.mpr c65;clear c65;obtain⟨dl,A66,H⟩:=be_ H;(try dsimp only at H);obtain rfl:=Option.some.inj H;obtain⟨dG,dH,dI,dV,dW,dX⟩:=cz3_ af
           go_wp2_with (first|((with_reducible refine gate_callee (f:=26) rfl ?_);refine gl_ 120 Tryd.func26 #[.agg #[.slice cb ac.length bk,.slice bi aj.length bn,.slice bj ar.length bo],.agg #[.int .i64 0,.int .i64 0]] (h:=?_);(with_reducible refine(spec_l10In.calls k3 _ _ ac _ _ aj _ _ ar 0 0 b9 _ ?aZ ?a8 ?a9 ?ba ?bc ?bf A64.out).mono ?_);(case aZ=>exact sq_c (Kd.C_below bz.out HB.out));(case a8=>exact bN.out);(case a9=>exact sq_c (Kd.C_below bq.out HB.out));(case ba=>exact bO.out);(case bc=>exact sq_c (Kd.C_below bQ.out HB.out));(case bf=>exact bP.out);rintro e eJ ⟨rfl,hb⟩;refine⟨_,rfl,?_⟩;replace af:=bb_ af hb;replace HB:=hb1_ HB hb au;(try clear hb);obtain⟨dJ,dK,dL,dY,dZ,d5⟩:=cz3_ af)|(go_at_call 26;(with_reducible refine(spec_l10In.calls k3 _ _ ac _ _ aj _ _ ar a1 0 dl _ ?aZ ?a8 ?a9 ?ba ?bc ?bf A66.out).mono ?_);(case aZ=>exact sq_c (Kd.C_below bz.out HB.out));(case a8=>exact bN.out);(case a9=>exact sq_c (Kd.C_below bq.out HB.out));(case ba=>exact bO.out);(case bc=>exact sq_c (Kd.C_below bQ.out HB.out));(case bf=>exact bP.out);rintro e eK ⟨rfl,hb⟩;replace HB:=hb_ HB hb;(try clear hb)))
           go_ret
           exact⟨lf_,sq_below HB.out⟩
          ·
           rw [if_neg c65]at H;have dw:(b9 == 0)=false:=beq_eq_false_iff_ne.mpr c65;have dx:(b9 != 0)=true:=bne_iff_ne.mpr c65;obtain rfl:=Option.some.inj H;obtain⟨dM,dN,dO,d6,d7,d8⟩:=cz3_ af
           go_wp2_with (first|((with_reducible refine gate_callee (f:=26) rfl ?_);refine gl_ 120 Tryd.func26 #[.agg #[.slice cb ac.length bk,.slice bi aj.length bn,.slice bj ar.length bo],.agg #[.int .i64 0,.int .i64 0]] (h:=?_);(with_reducible refine(spec_l10In.calls k3 _ _ ac _ _ aj _ _ ar 0 0 b9 _ ?aZ ?a8 ?a9 ?ba ?bc ?bf A64.out).mono ?_);(case aZ=>exact sq_c (Kd.C_below bz.out HB.out));(case a8=>exact bN.out);(case a9=>exact sq_c (Kd.C_below bq.out HB.out));(case ba=>exact bO.out);(case bc=>exact sq_c (Kd.C_below bQ.out HB.out));(case bf=>exact bP.out);rintro e eL ⟨rfl,hb⟩;refine⟨_,rfl,?_⟩;replace HB:=hb_ HB hb;(try clear hb)))
           go_ret
           exact⟨lf_,sq_below HB.out⟩
end Go.Proofs.YtcdeojfeebmonaaDoor.Q
