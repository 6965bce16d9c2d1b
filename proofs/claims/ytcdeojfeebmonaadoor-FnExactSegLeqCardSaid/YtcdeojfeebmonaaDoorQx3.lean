/- Functions of the translation as Lean functions, each with a proof that a call answers so; out of the seat, by this claim's own program prt.py. -/
import Derived.Test.YtcdeojfeebmonaaDoorWRepsOne
import Derived.Test.YtcdeojfeebmonaaDoorQx0
import Derived.Test.YtcdeojfeebmonaaDoorQStep3
namespace Go.Proofs.YtcdeojfeebmonaaDoor.Q
open Go.RowKit Go.Proofs.YtcdeojfeebmonaaDoorW.PrintWords Go.Proofs.YtcdeojfeebmonaaDoorW.PrintLast Go.Proofs.YtcdeojfeebmonaaDoorW.PrintMore
attribute [local go_sem] max2_int min2_int max_two min_two max_three min_three max_four min_four
set_option linter.unusedVariables false
set_option maxHeartbeats 8000000
set_option maxRecDepth 100000
set_option linter.unusedSimpArgs false
def laws_szSymS.f(l0:List (S82))(a1:Int):Option (Int):=if(wrap64 (a1-(l0.length:Int)))<0 then(some (-1))else(some (wrap64 (a1-(l0.length:Int))))
theorem laws_szSymS.calls(A0:Option Addr)(c0:Nat)(l0:List (S82))(a1:Int)(r:Int)(w:World)(hr0:Kd.C k82 w A0 l0.length l0)(hc0:l0.length≤c0)(h:laws_szSymS.f l0 a1=some r) :
  Calls Tryd.prog 22 #[.slice A0 l0.length c0,.int .i64 a1] w fun e w'=>e=.returned (.int .i64 r)∧Drawn0 w w':=by
 have ae:=am_ hr0;have ac:=am_ hc0;clear hr0 hc0;have H:(if(wrap64 (a1-(l0.length:Int)))<0 then(some (-1))else(some (wrap64 (a1-(l0.length:Int)))))=some r:=h;clear h
 by_cases c3:(wrap64 (a1-(l0.length:Int)))<0
 ·
  rw [if_pos c3]at H;have aa:=decide_eq_true (p:=(wrap64 (a1-(l0.length:Int)))<0) c3;clear c3;obtain rfl:=Option.some.inj H
  go_enter Tryd.func22,Tryd.ntmps22
  go_wp2
  go_ret
  exact⟨by first|rfl|(simp;done)|(simp [*];done),by repeat(first|exact Drawn0.refl _|apply Drawn0.step)⟩
 ·
  rw [if_neg c3]at H;have aa:=decide_eq_false (p:=(wrap64 (a1-(l0.length:Int)))<0) c3;clear c3;obtain rfl:=Option.some.inj H
  go_enter Tryd.func22,Tryd.ntmps22
  go_wp2
  go_ret
  exact⟨by first|rfl|(simp;done)|(simp [*];done),by repeat(first|exact Drawn0.refl _|apply Drawn0.step)⟩
def laws_szSymSS.l0:Nat→List (List (S82))→Int→Int→Option (Int)
 |0,_,_,_=>none
 |k+1,x0,x1,x5=>if x5<(x0.length:Int)then(if 0≤x5 then((laws_szSymS.f (rd_L2 x0 x5) x1).bind fun af=>(if af<0 then(some (-1))else(laws_szSymSS.l0 k x0 af (wrap64 (x5+1)))))else(none))else(some x1)
def laws_szSymSS.f(k:Nat)(l0:List (List (S82)))(a1:Int):Option (Int):=if(wrap64 (a1-(l0.length:Int)))<0 then(some (-1))else(laws_szSymSS.l0 k l0 (wrap64 (a1-(l0.length:Int))) 0)
theorem laws_szSymSS.mono_l:∀ k,(∀ y0 y1 y2,LeO (laws_szSymSS.l0 k y0 y1 y2) (laws_szSymSS.l0 (k+1) y0 y1 y2))
 |0=>fun _ _ _ r h=>by simp [laws_szSymSS.l0]at h
 |k+1=>by
  have ih0:=laws_szSymSS.mono_l k
  ·
   intro y0 y1 y2;unfold laws_szSymSS.l0
   repeat' first
   |(with_reducible exact ih0 _ _ _)|(with_reducible exact LeO.refl _)|(with_reducible exact LeO.none _)|(with_reducible refine LeO.ite ?_ ?_)|(with_reducible refine LeO.bind ?_ fun _=>?_)|exact ih0 _ _ _|exact LeO.none _|refine LeO.ite ?_ ?_|refine LeO.bind ?_ fun _=>?_
theorem laws_szSymSS.mono:∀ a0 a1 k,LeO (laws_szSymSS.f k a0 a1) (laws_szSymSS.f (k+1) a0 a1):=by
 intro a0 a1 k;have ih0:=laws_szSymSS.mono_l k;unfold laws_szSymSS.f
 repeat' first
   |(with_reducible exact ih0 _ _ _)|(with_reducible exact LeO.refl _)|(with_reducible exact LeO.none _)|(with_reducible refine LeO.ite ?_ ?_)|(with_reducible refine LeO.bind ?_ fun _=>?_)|exact ih0 _ _ _|exact LeO.none _|refine LeO.ite ?_ ?_|refine LeO.bind ?_ fun _=>?_
theorem laws_szSymSS.calls(k:Nat)(A0:Option Addr)(c0:Nat)(l0:List (List (S82)))(a1:Int)(r:Int)(w:World)(hr0:Kd.C (Kd.slice 82 k82) w A0 l0.length l0)(hc0:l0.length≤c0)(h:laws_szSymSS.f k l0 a1=some r) :
  Calls Tryd.prog 9 #[.slice A0 l0.length c0,.int .i64 a1] w fun e w'=>e=.returned (.int .i64 r)∧Drawn0 w w':=by
 have az:=am_ hr0;have aC:=am_ hc0;clear hr0 hc0;have H:(if(wrap64 (a1-(l0.length:Int)))<0 then(some (-1))else(laws_szSymSS.l0 k l0 (wrap64 (a1-(l0.length:Int))) 0))=some r:=h;clear h
 by_cases c3:(wrap64 (a1-(l0.length:Int)))<0
 ·
  rw [if_pos c3]at H;have aw:=decide_eq_true (p:=(wrap64 (a1-(l0.length:Int)))<0) c3;clear c3;obtain rfl:=Option.some.inj H
  go_enter Tryd.func9,Tryd.ntmps9
  go_wp2
  go_ret
  exact⟨by first|rfl|(simp;done)|(simp [*];done),by repeat(first|exact Drawn0.refl _|apply Drawn0.step)⟩
 ·
  rw [if_neg c3]at H;have aw:=decide_eq_false (p:=(wrap64 (a1-(l0.length:Int)))<0) c3;clear c3;have H':=am_ H;clear H
  go_enter Tryd.func9,Tryd.ntmps9
  go_wp2
  go_loopg [1,5] k (fun kq v1 v5 w'=>∃ (ak:Int) (aa:Int),v1=.int .i64 ak∧v5=.int .i64 aa∧Aside0 (laws_szSymSS.l0 kq l0 ak aa=some r)∧Aside0 (kq≤k)∧Drawn0 w w')
  case atStart=>exact⟨(wrap64 (a1-(l0.length:Int))),(0),sr_,sr_,H',⟨Nat.le_refl _⟩,by repeat(first|exact Drawn0.refl _|apply Drawn0.step)⟩
  case round =>
   clear H'
   obtain⟨ak,aa,rfl,rfl,HA,HK1,⟨m1,rfl⟩⟩:=hrel;cases gk with
   |zero=>exact absurd HA.out (by simp [laws_szSymSS.l0])
   |succ k1 =>
    have H:=HA.out;clear HA;simp only [laws_szSymSS.l0]at H
    by_cases c4:aa<(l0.length:Int)
    ·
     rw [if_pos c4]at H;have ax:=decide_eq_true (p:=aa<(l0.length:Int)) c4;clear c4
     by_cases c5:0≤aa
     ·
      rw [if_pos c5]at H;have aA:=decide_eq_true (p:=0≤aa) c5;clear c5;obtain⟨af,A6,H⟩:=be_ H;(try dsimp only at H)
      by_cases c7:af<0
      ·
       rw [if_pos c7]at H;have ay:=decide_eq_true (p:=af<0) c7;clear c7;obtain rfl:=Option.some.inj H;have ai:0≤(aa:Int):=sq_dec;have aj:aa<(l0.length:Int):=sq_dec;obtain⟨au,ag,ah,ar,aq,hl101_0,hi101_0⟩:=at_L2 az.out aa ai aj;cases ar;have ae:=am_ hi101_0;have ac:=am_ hl101_0;clear hi101_0 hl101_0;replace ai:=eq_true ai;replace aj:=eq_true aj
       go_wp2_with (first|((with_reducible refine gate_callee (f:=22) rfl ?_);refine gl_ 23 Tryd.func22 #[.slice ag (rd_L2 l0 aa).length ah,.int .i64 ak] (h:=?_);(with_reducible refine(laws_szSymS.calls _ _ (rd_L2 l0 aa) ak af _ ?ao ?ap A6.out).mono ?_);(case ao=>repeat(first|exact ae.out|(with_reducible refine Kd.C_alloc ?_ _)|(with_reducible refine Kd.C_drewN ?_ _)|(with_reducible refine Kd.C_drew ?_)));(case ap=>exact ac.out);rintro e w' ⟨rfl,⟨nd,rfl⟩⟩;refine⟨_,rfl,?_⟩))
       go_ret
       exact⟨by first|rfl|(simp;done)|(simp [*];done),by repeat(first|exact Drawn0.refl _|apply Drawn0.step)⟩
      ·
       rw [if_neg c7]at H;have ay:=decide_eq_false (p:=af<0) c7;clear c7;have H':=am_ H;clear H;have ai:0≤(aa:Int):=sq_dec;have aj:aa<(l0.length:Int):=sq_dec;obtain⟨au,ag,ah,ar,aq,hl101_0,hi101_0⟩:=at_L2 az.out aa ai aj;cases ar;have ae:=am_ hi101_0;have ac:=am_ hl101_0;clear hi101_0 hl101_0;replace ai:=eq_true ai;replace aj:=eq_true aj
       go_wp2_with (first|((with_reducible refine gate_callee (f:=22) rfl ?_);refine gl_ 23 Tryd.func22 #[.slice ag (rd_L2 l0 aa).length ah,.int .i64 ak] (h:=?_);(with_reducible refine(laws_szSymS.calls _ _ (rd_L2 l0 aa) ak af _ ?ao ?ap A6.out).mono ?_);(case ao=>repeat(first|exact ae.out|(with_reducible refine Kd.C_alloc ?_ _)|(with_reducible refine Kd.C_drewN ?_ _)|(with_reducible refine Kd.C_drew ?_)));(case ap=>exact ac.out);rintro e w' ⟨rfl,⟨nd,rfl⟩⟩;refine⟨_,rfl,?_⟩))
       go_roundg k1
       case measure=>have:=HK1.out;omega
       case rel=>exact⟨(af),(wrap64 (aa+1)),sr_,sr_,H',⟨by have:=HK1.out;omega⟩,by repeat(first|exact Drawn0.refl _|apply Drawn0.step)⟩
     ·
      rw [if_neg c5]at H;exact absurd H (by simp)
    ·
     rw [if_neg c4]at H;have ax:=decide_eq_false (p:=aa<(l0.length:Int)) c4;clear c4;obtain rfl:=Option.some.inj H
     go_wp2
     go_ret
     exact⟨by first|rfl|(simp;done)|(simp [*];done),by repeat(first|exact Drawn0.refl _|apply Drawn0.step)⟩
def laws_szValS.f(l0:List (S68))(a1:Int):Option (Int):=if(wrap64 (a1-(l0.length:Int)))<0 then(some (-1))else(some (wrap64 (a1-(l0.length:Int))))
theorem laws_szValS.calls(A0:Option Addr)(c0:Nat)(l0:List (S68))(a1:Int)(r:Int)(w:World)(hr0:Kd.C k68 w A0 l0.length l0)(hc0:l0.length≤c0)(h:laws_szValS.f l0 a1=some r) :
  Calls Tryd.prog 10 #[.slice A0 l0.length c0,.int .i64 a1] w fun e w'=>e=.returned (.int .i64 r)∧Drawn0 w w':=by
 have ae:=am_ hr0;have ac:=am_ hc0;clear hr0 hc0;have H:(if(wrap64 (a1-(l0.length:Int)))<0 then(some (-1))else(some (wrap64 (a1-(l0.length:Int)))))=some r:=h;clear h
 by_cases c3:(wrap64 (a1-(l0.length:Int)))<0
 ·
  rw [if_pos c3]at H;have aa:=decide_eq_true (p:=(wrap64 (a1-(l0.length:Int)))<0) c3;clear c3;obtain rfl:=Option.some.inj H
  go_enter Tryd.func10,Tryd.ntmps10
  go_wp2
  go_ret
  exact⟨by first|rfl|(simp;done)|(simp [*];done),by repeat(first|exact Drawn0.refl _|apply Drawn0.step)⟩
 ·
  rw [if_neg c3]at H;have aa:=decide_eq_false (p:=(wrap64 (a1-(l0.length:Int)))<0) c3;clear c3;obtain rfl:=Option.some.inj H
  go_enter Tryd.func10,Tryd.ntmps10
  go_wp2
  go_ret
  exact⟨by first|rfl|(simp;done)|(simp [*];done),by repeat(first|exact Drawn0.refl _|apply Drawn0.step)⟩
def laws_szBoolS.f(l0:List Bool)(a1:Int):Option (Int):=if(wrap64 (a1-(l0.length:Int)))<0 then(some (-1))else(some (wrap64 (a1-(l0.length:Int))))
theorem laws_szBoolS.calls(A0:Option Addr)(c0:Nat)(l0:List Bool)(a1:Int)(r:Int)(w:World)(hr0:Kd.C Kd.bool w A0 l0.length l0)(hc0:l0.length≤c0)(h:laws_szBoolS.f l0 a1=some r) :
  Calls Tryd.prog 11 #[.slice A0 l0.length c0,.int .i64 a1] w fun e w'=>e=.returned (.int .i64 r)∧Drawn0 w w':=by
 have ae:=am_ hr0;have ac:=am_ hc0;clear hr0 hc0;have H:(if(wrap64 (a1-(l0.length:Int)))<0 then(some (-1))else(some (wrap64 (a1-(l0.length:Int)))))=some r:=h;clear h
 by_cases c3:(wrap64 (a1-(l0.length:Int)))<0
 ·
  rw [if_pos c3]at H;have aa:=decide_eq_true (p:=(wrap64 (a1-(l0.length:Int)))<0) c3;clear c3;obtain rfl:=Option.some.inj H
  go_enter Tryd.func11,Tryd.ntmps11
  go_wp2
  go_ret
  exact⟨by first|rfl|(simp;done)|(simp [*];done),by repeat(first|exact Drawn0.refl _|apply Drawn0.step)⟩
 ·
  rw [if_neg c3]at H;have aa:=decide_eq_false (p:=(wrap64 (a1-(l0.length:Int)))<0) c3;clear c3;obtain rfl:=Option.some.inj H
  go_enter Tryd.func11,Tryd.ntmps11
  go_wp2
  go_ret
  exact⟨by first|rfl|(simp;done)|(simp [*];done),by repeat(first|exact Drawn0.refl _|apply Drawn0.step)⟩
def laws_szSeg.f(k:Nat)(ae:List (List (S82)))(ag:List (S68))(ah:List Bool)(a1:Int):Option (Int):=(laws_szSymSS.f k ae a1).bind fun af=>(if af<0 then(some (-1))else((laws_szValS.f ag af).bind fun ai=>(if ai<0 then(some (-1))else((laws_szBoolS.f ah ai).bind fun aj=>(if aj<0 then(some (-1))else(some aj))))))
theorem laws_szSeg.mono:∀ a0 a1 a2 a3 k,LeO (laws_szSeg.f k a0 a1 a2 a3) (laws_szSeg.f (k+1) a0 a1 a2 a3):=by
 intro a0 a1 a2 a3 k;unfold laws_szSeg.f
 repeat' first
   |(with_reducible exact laws_szSymSS.mono _ _ _)|(with_reducible exact LeO.refl _)|(with_reducible exact LeO.none _)|(with_reducible refine LeO.ite ?_ ?_)|(with_reducible refine LeO.bind ?_ fun _=>?_)|exact laws_szSymSS.mono _ _ _|exact LeO.none _|refine LeO.ite ?_ ?_|refine LeO.bind ?_ fun _=>?_
theorem laws_szSeg.calls(k:Nat)(ao:Option Addr)(ap:Nat)(ae:List (List (S82)))(aq:Option Addr)(ar:Nat)(ag:List (S68))(au:Option Addr)(ax:Nat)(ah:List Bool)(a1:Int)(r:Int)(w:World)(aN:Kd.C (Kd.slice 82 k82) w ao ae.length ae)(aJ:ae.length≤ap)(aQ:Kd.C k68 w aq ag.length ag)(aK:ag.length≤ar)(aT:Kd.C Kd.bool w au ah.length ah)(aM:ah.length≤ax)(h:laws_szSeg.f k ae ag ah a1=some r) :
  Calls Tryd.prog 4 #[.agg #[.slice ao ae.length ap,.slice aq ag.length ar,.slice au ah.length ax],.int .i64 a1] w fun e w'=>e=.returned (.int .i64 r)∧Below w.heap.size w w':=by
 have hu26:=Tryd.underlying26;have az:=am_ aN;have ay:=am_ aJ;clear aN aJ;have aD:=am_ aQ;have aC:=am_ aK;clear aQ aK;have aI:=am_ aT;have aH:=am_ aM;clear aT aM;have HB:=am_ (Below.refl w.heap.size w);have H:((laws_szSymSS.f k ae a1).bind fun af=>(if af<0 then(some (-1))else((laws_szValS.f ag af).bind fun ai=>(if ai<0 then(some (-1))else((laws_szBoolS.f ah ai).bind fun aj=>(if aj<0 then(some (-1))else(some aj)))))))=some r:=h;clear h;obtain⟨af,A3,H⟩:=be_ H;(try dsimp only at H)
 by_cases c4:af<0
 ·
  rw [if_pos c4]at H;have bq:=decide_eq_true (p:=af<0) c4;clear c4;obtain rfl:=Option.some.inj H
  go_enter Tryd.func4,Tryd.ntmps4
  go_wp2_with (first|((with_reducible refine gate_dst (N:=2) rfl ?_);refine box_y 2 #[.slice ao ae.length ap,.slice aq ag.length ar,.slice au ah.length ax] 26 (h:=?_);intro aG hg w5 hbox hb;have ak:=am_ hbox;have aA:=gz_ hg HB;have aw:=gz_ hg HB;replace HB:=hb_ HB hb;clear hb hbox hg;obtain⟨bu,bw,bx,bz,bA,bB⟩:=cz3_ ak)|((with_reducible refine gate_callee (f:=9) rfl ?_);refine gl_ 8 Tryd.func9 #[.slice ao ae.length ap,.int .i64 a1] (h:=?_);(with_reducible refine(laws_szSymSS.calls k _ _ ae a1 af _ ?aa ?ac A3.out).mono ?_);(case aa=>exact sq_c (Kd.C_below az.out HB.out));(case ac=>exact ay.out);rintro e w' ⟨rfl,⟨nd,rfl⟩⟩;refine⟨_,rfl,?_⟩))
  go_ret
  exact⟨lf_,sq_below HB.out⟩
 ·
  rw [if_neg c4]at H;have bq:=decide_eq_false (p:=af<0) c4;clear c4;obtain⟨ai,A7,H⟩:=be_ H;(try dsimp only at H)
  by_cases c8:ai<0
  ·
   rw [if_pos c8]at H;have br:=decide_eq_true (p:=ai<0) c8;clear c8;obtain rfl:=Option.some.inj H
   go_enter Tryd.func4,Tryd.ntmps4
   go_wp2_with (first|((with_reducible refine gate_dst (N:=2) rfl ?_);refine box_y 2 #[.slice ao ae.length ap,.slice aq ag.length ar,.slice au ah.length ax] 26 (h:=?_);intro aG hg w9 hbox hb;have ak:=am_ hbox;have aA:=gz_ hg HB;have aw:=gz_ hg HB;replace HB:=hb_ HB hb;clear hb hbox hg;obtain⟨aV,aW,aX,bf,bg,bh⟩:=cz3_ ak)|((with_reducible refine gate_callee (f:=9) rfl ?_);refine gl_ 8 Tryd.func9 #[.slice ao ae.length ap,.int .i64 a1] (h:=?_);(with_reducible refine(laws_szSymSS.calls k _ _ ae a1 af _ ?aa ?ac A3.out).mono ?_);(case aa=>exact sq_c (Kd.C_below az.out HB.out));(case ac=>exact ay.out);rintro e w' ⟨rfl,⟨nd,rfl⟩⟩;refine⟨_,rfl,?_⟩)|((with_reducible refine gate_callee (f:=10) rfl ?_);refine gl_ 14 Tryd.func10 #[.slice aq ag.length ar,.int .i64 af] (h:=?_);(with_reducible refine(laws_szValS.calls _ _ ag af ai _ ?aa ?ac A7.out).mono ?_);(case aa=>exact sq_c (Kd.C_below aD.out (sq_below HB.out)));(case ac=>exact aC.out);rintro e w' ⟨rfl,⟨nd,rfl⟩⟩;refine⟨_,rfl,?_⟩))
   go_ret
   exact⟨lf_,sq_below HB.out⟩
  ·
   rw [if_neg c8]at H;have br:=decide_eq_false (p:=ai<0) c8;clear c8;replace H:=Option.bind_eq_some_iff.mp H;obtain⟨aj,A110,H⟩:=H;replace H:(if aj<0 then(some (-1))else(some aj))=some r:=H;have A11:=am_ A110;clear A110
   by_cases c12:aj<0
   ·
    rw [if_pos c12]at H;have aU:=decide_eq_true (p:=aj<0) c12;clear c12;obtain rfl:=Option.some.inj H
    go_enter Tryd.func4,Tryd.ntmps4
    go_wp2_with (first|((with_reducible refine gate_dst (N:=2) rfl ?_);refine box_y 2 #[.slice ao ae.length ap,.slice aq ag.length ar,.slice au ah.length ax] 26 (h:=?_);intro aG hg bC hbox hb;have ak:=am_ hbox;have aA:=gz_ hg HB;have aw:=gz_ hg HB;replace HB:=hb_ HB hb;clear hb hbox hg;obtain⟨aY,aZ,a8,bi,bj,bk⟩:=cz3_ ak)|((with_reducible refine gate_callee (f:=9) rfl ?_);refine gl_ 8 Tryd.func9 #[.slice ao ae.length ap,.int .i64 a1] (h:=?_);(with_reducible refine(laws_szSymSS.calls k _ _ ae a1 af _ ?aa ?ac A3.out).mono ?_);(case aa=>exact sq_c (Kd.C_below az.out HB.out));(case ac=>exact ay.out);rintro e w' ⟨rfl,⟨nd,rfl⟩⟩;refine⟨_,rfl,?_⟩)|((with_reducible refine gate_callee (f:=10) rfl ?_);refine gl_ 14 Tryd.func10 #[.slice aq ag.length ar,.int .i64 af] (h:=?_);(with_reducible refine(laws_szValS.calls _ _ ag af ai _ ?aa ?ac A7.out).mono ?_);(case aa=>exact sq_c (Kd.C_below aD.out (sq_below1 HB.out aw.out)));(case ac=>exact aC.out);rintro e w' ⟨rfl,⟨nd,rfl⟩⟩;refine⟨_,rfl,?_⟩)|((with_reducible refine gate_callee (f:=11) rfl ?_);refine gl_ 20 Tryd.func11 #[.slice au ah.length ax,.int .i64 ai] (h:=?_);(with_reducible refine(laws_szBoolS.calls _ _ ah ai aj _ ?aa ?ac A11.out).mono ?_);(case aa=>exact sq_c (Kd.C_below aI.out (sq_below HB.out)));(case ac=>exact aH.out);rintro e w' ⟨rfl,⟨nd,rfl⟩⟩;refine⟨_,rfl,?_⟩))
    go_ret
    exact⟨lf_,sq_below HB.out⟩
   ·
    rw [if_neg c12]at H;have aU:=decide_eq_false (p:=aj<0) c12;clear c12;obtain rfl:=Option.some.inj H
    go_enter Tryd.func4,Tryd.ntmps4
    go_wp2_with (first|((with_reducible refine gate_dst (N:=2) rfl ?_);refine box_y 2 #[.slice ao ae.length ap,.slice aq ag.length ar,.slice au ah.length ax] 26 (h:=?_);intro aG hg bD hbox hb;have ak:=am_ hbox;have aA:=gz_ hg HB;have aw:=gz_ hg HB;replace HB:=hb_ HB hb;clear hb hbox hg;obtain⟨a9,ba,bc,bn,bo,bp⟩:=cz3_ ak)|((with_reducible refine gate_callee (f:=9) rfl ?_);refine gl_ 8 Tryd.func9 #[.slice ao ae.length ap,.int .i64 a1] (h:=?_);(with_reducible refine(laws_szSymSS.calls k _ _ ae a1 af _ ?aa ?ac A3.out).mono ?_);(case aa=>exact sq_c (Kd.C_below az.out HB.out));(case ac=>exact ay.out);rintro e w' ⟨rfl,⟨nd,rfl⟩⟩;refine⟨_,rfl,?_⟩)|((with_reducible refine gate_callee (f:=10) rfl ?_);refine gl_ 14 Tryd.func10 #[.slice aq ag.length ar,.int .i64 af] (h:=?_);(with_reducible refine(laws_szValS.calls _ _ ag af ai _ ?aa ?ac A7.out).mono ?_);(case aa=>exact sq_c (Kd.C_below aD.out (sq_below1 HB.out aw.out)));(case ac=>exact aC.out);rintro e w' ⟨rfl,⟨nd,rfl⟩⟩;refine⟨_,rfl,?_⟩)|((with_reducible refine gate_callee (f:=11) rfl ?_);refine gl_ 20 Tryd.func11 #[.slice au ah.length ax,.int .i64 ai] (h:=?_);(with_reducible refine(laws_szBoolS.calls _ _ ah ai aj _ ?aa ?ac A11.out).mono ?_);(case aa=>exact sq_c (Kd.C_below aI.out (sq_below HB.out)));(case ac=>exact aH.out);rintro e w' ⟨rfl,⟨nd,rfl⟩⟩;refine⟨_,rfl,?_⟩))
    go_ret
    exact⟨lf_,sq_below HB.out⟩
def spec_l01Between.f(a0:Int)(a1:Int)(a2:Int):Option (Bool):=if a0≥a1 then(some (decide (a0≤a2)))else(some false)
theorem spec_l01Between.calls(a0:Int)(a1:Int)(a2:Int)(r:Bool)(w:World)(h:spec_l01Between.f a0 a1 a2=some r) :
  Calls Tryd.prog 40 #[.int .i64 a0,.int .i64 a1,.int .i64 a2] w fun e w'=>e=.returned (.bool r)∧Drawn0 w w':=by
 have H:(if a0≥a1 then(some (decide (a0≤a2)))else(some false))=some r:=h;clear h
 by_cases c4:a0≥a1
 ·
  rw [if_pos c4]at H;have aa:=decide_eq_true (p:=a1≤a0) c4;clear c4;obtain rfl:=Option.some.inj H
  go_enter Tryd.func40,Tryd.ntmps40
  go_wp2
  go_ret
  exact⟨by first|rfl|(simp;done)|(simp [*];done),by repeat(first|exact Drawn0.refl _|apply Drawn0.step)⟩
 ·
  rw [if_neg c4]at H;have aa:=decide_eq_false (p:=a1≤a0) c4;clear c4;obtain rfl:=Option.some.inj H
  go_enter Tryd.func40,Tryd.ntmps40
  go_wp2
  go_ret
  exact⟨by first|rfl|(simp;done)|(simp [*];done),by repeat(first|exact Drawn0.refl _|apply Drawn0.step)⟩
def spec_l10Size.f(a0:Int)(a1:Int):Option (Bool):=(spec_l01Between.f a0 2 13).bind fun ac=>(if ac=true then((spec_l01Between.f a1 1 (wrap64 (a0-1))).bind fun aa=>(some aa))else(some false))
theorem spec_l10Size.calls(a0:Int)(a1:Int)(r:Bool)(w:World)(h:spec_l10Size.f a0 a1=some r) :
  Calls Tryd.prog 23 #[.int .i64 a0,.int .i64 a1] w fun e w'=>e=.returned (.bool r)∧Drawn0 w w':=by
 have H:((spec_l01Between.f a0 2 13).bind fun ac=>(if ac=true then((spec_l01Between.f a1 1 (wrap64 (a0-1))).bind fun aa=>(some aa))else(some false)))=some r:=h;clear h;obtain⟨ac,A3,H⟩:=be_ H;(try dsimp only at H)
 by_cases c4:ac=true
 ·
  subst c4;have H1:=ifp_ H
  clear H;have H:=H1;clear H1;replace H:=Option.bind_eq_some_iff.mp H;obtain⟨aa,A50,H⟩:=H;replace H:(some aa)=some r:=H;have A5:=am_ A50;clear A50;obtain rfl:=Option.some.inj H
  go_enter Tryd.func23,Tryd.ntmps23
  go_wp2_with (first|((with_reducible refine gate_callee (f:=40) rfl ?_);refine gl_ 6 Tryd.func40 #[.int .i64 a0,.int .i64 2,.int .i64 13] (h:=?_);(with_reducible refine(spec_l01Between.calls a0 2 13 true _ A3.out).mono ?_);rintro e w' ⟨rfl,⟨nd,rfl⟩⟩;refine⟨_,rfl,?_⟩)|(go_at_call 40;(with_reducible refine(spec_l01Between.calls a1 1 (wrap64 (a0-1)) aa _ A5.out).mono ?_);rintro e w' ⟨rfl,⟨nd,rfl⟩⟩))
  go_ret
  exact⟨by first|rfl|(simp;done)|(simp [*];done),by repeat(first|exact Drawn0.refl _|apply Drawn0.step)⟩
 ·
  replace c4:=Bool.eq_false_iff.mpr c4;subst c4;have H1:=ifn_ H
  clear H;have H:=H1;clear H1;obtain rfl:=Option.some.inj H
  go_enter Tryd.func23,Tryd.ntmps23
  go_wp2_with (first|((with_reducible refine gate_callee (f:=40) rfl ?_);refine gl_ 6 Tryd.func40 #[.int .i64 a0,.int .i64 2,.int .i64 13] (h:=?_);(with_reducible refine(spec_l01Between.calls a0 2 13 false _ A3.out).mono ?_);rintro e w' ⟨rfl,⟨nd,rfl⟩⟩;refine⟨_,rfl,?_⟩))
  go_ret
  exact⟨by first|rfl|(simp;done)|(simp [*];done),by repeat(first|exact Drawn0.refl _|apply Drawn0.step)⟩
end Go.Proofs.YtcdeojfeebmonaaDoor.Q
