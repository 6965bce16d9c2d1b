/- Functions of the translation as Lean functions, each with a proof that a call answers so; out of the seat, by this claim's own program prt.py. -/
import Derived.Test.YtcdeojfeebmonaaDoorWRepsOne
import Derived.Test.YtcdeojfeebmonaaDoorQx0
import Derived.Test.YtcdeojfeebmonaaDoorQx1
import Derived.Test.YtcdeojfeebmonaaDoorQx17
import Derived.Test.YtcdeojfeebmonaaDoorQStep3
namespace Go.Proofs.YtcdeojfeebmonaaDoor.Q
open Go.RowKit Go.Proofs.YtcdeojfeebmonaaDoorW.PrintWords Go.Proofs.YtcdeojfeebmonaaDoorW.PrintLast Go.Proofs.YtcdeojfeebmonaaDoorW.PrintMore
attribute [local go_sem] max2_int min2_int max_two min_two max_three min_three max_four min_four
set_option linter.unusedVariables false
set_option maxHeartbeats 8000000
set_option maxRecDepth 100000
set_option linter.unusedSimpArgs false
attribute [local go_sem high] eqA53
def impl_isShape.f(a0:Int)(a1:Int):Option (Bool):=(impl_inRange.f a0 2 13).bind fun ac=>(if ac=true then((impl_inRange.f a1 1 (wrap64 (a0-1))).bind fun aa=>(some aa))else(some false))
theorem impl_isShape.calls(a0:Int)(a1:Int)(r:Bool)(w:World)(h:impl_isShape.f a0 a1=some r) :
  Calls Tryd.prog 49 #[.int .i64 a0,.int .i64 a1] w fun e w'=>e=.returned (.bool r)∧Drawn0 w w':=by
 have H:((impl_inRange.f a0 2 13).bind fun ac=>(if ac=true then((impl_inRange.f a1 1 (wrap64 (a0-1))).bind fun aa=>(some aa))else(some false)))=some r:=h;clear h;obtain⟨ac,A3,H⟩:=be_ H;(try dsimp only at H)
 by_cases c4:ac=true
 ·
  subst c4;have H1:=ifp_ H
  clear H;have H:=H1;clear H1;replace H:=Option.bind_eq_some_iff.mp H;obtain⟨aa,A50,H⟩:=H;replace H:(some aa)=some r:=H;have A5:=am_ A50;clear A50;obtain rfl:=Option.some.inj H
  go_enter Tryd.func49,Tryd.ntmps49
  go_wp2_with (first|((with_reducible refine gate_callee (f:=50) rfl ?_);refine gl_ 6 Tryd.func50 #[.int .i64 a0,.int .i64 2,.int .i64 13] (h:=?_);(with_reducible refine(impl_inRange.calls a0 2 13 true _ A3.out).mono ?_);rintro e w' ⟨rfl,⟨nd,rfl⟩⟩;refine⟨_,rfl,?_⟩)|(go_at_call 50;(with_reducible refine(impl_inRange.calls a1 1 (wrap64 (a0-1)) aa _ A5.out).mono ?_);rintro e w' ⟨rfl,⟨nd,rfl⟩⟩))
  go_ret
  exact⟨by first|rfl|(simp;done)|(simp [*];done),by repeat(first|exact Drawn0.refl _|apply Drawn0.step)⟩
 ·
  replace c4:=Bool.eq_false_iff.mpr c4;subst c4;have H1:=ifn_ H
  clear H;have H:=H1;clear H1;obtain rfl:=Option.some.inj H
  go_enter Tryd.func49,Tryd.ntmps49
  go_wp2_with (first|((with_reducible refine gate_callee (f:=50) rfl ?_);refine gl_ 6 Tryd.func50 #[.int .i64 a0,.int .i64 2,.int .i64 13] (h:=?_);(with_reducible refine(impl_inRange.calls a0 2 13 false _ A3.out).mono ?_);rintro e w' ⟨rfl,⟨nd,rfl⟩⟩;refine⟨_,rfl,?_⟩))
  go_ret
  exact⟨by first|rfl|(simp;done)|(simp [*];done),by repeat(first|exact Drawn0.refl _|apply Drawn0.step)⟩
def impl_isPlace.f(a0:Int)(a1:Int):Option (Bool):=(impl_inRange.f a0 0 (wrap64 (a1-1))).bind fun aa=>(some aa)
theorem impl_isPlace.calls(a0:Int)(a1:Int)(r:Bool)(w:World)(h:impl_isPlace.f a0 a1=some r) :
  Calls Tryd.prog 68 #[.int .i64 a0,.int .i64 a1] w fun e w'=>e=.returned (.bool r)∧Drawn0 w w':=by
 have H:((impl_inRange.f a0 0 (wrap64 (a1-1))).bind fun aa=>(some aa))=some r:=h;clear h;replace H:=Option.bind_eq_some_iff.mp H;obtain⟨aa,A30,H⟩:=H;replace H:(some aa)=some r:=H;have A3:=am_ A30;clear A30;obtain rfl:=Option.some.inj H
 go_enter Tryd.func68,Tryd.ntmps68
 go_wp2_with (first|((with_reducible refine gate_callee (f:=50) rfl ?_);refine gl_ 8 Tryd.func50 #[.int .i64 a0,.int .i64 0,.int .i64 (wrap64 (a1-1))] (h:=?_);(with_reducible refine(impl_inRange.calls a0 0 (wrap64 (a1-1)) aa _ A3.out).mono ?_);rintro e w' ⟨rfl,⟨nd,rfl⟩⟩;refine⟨_,rfl,?_⟩))
 go_ret
 exact⟨by first|rfl|(simp;done)|(simp [*];done),by repeat(first|exact Drawn0.refl _|apply Drawn0.step)⟩
def impl_SymOk.f(a0:Int)(aa:Int)(ac:Int):Option (Bool):=(impl_inRange.f a0 1 13).bind fun ag=>(if ag=true then((impl_isPlace.f aa a0).bind fun ah=>(if ah=true then((impl_inRange.f ac (-1000) 1000).bind fun af=>(some af))else(some false)))else(some false))
theorem impl_SymOk.calls(a0:Int)(aa:Int)(ac:Int)(r:Bool)(w:World)(h:impl_SymOk.f a0 aa ac=some r) :
  Calls Tryd.prog 51 #[.int .i64 a0,.agg #[.int .i64 aa,.int .i64 ac]] w fun e w'=>e=.returned (.bool r)∧Below w.heap.size w w':=by
 have hu53:=Tryd.underlying53;have HB:=am_ (Below.refl w.heap.size w);have H:((impl_inRange.f a0 1 13).bind fun ag=>(if ag=true then((impl_isPlace.f aa a0).bind fun ah=>(if ah=true then((impl_inRange.f ac (-1000) 1000).bind fun af=>(some af))else(some false)))else(some false)))=some r:=h;clear h;obtain⟨ag,A3,H⟩:=be_ H;(try dsimp only at H)
 by_cases c4:ag=true
 ·
  subst c4;have H1:=ifp_ H
  clear H;have H:=H1;clear H1;obtain⟨ah,A5,H⟩:=be_ H;(try dsimp only at H)
  by_cases c6:ah=true
  ·
   subst c6;have H1:=ifp_ H
   clear H;have H:=H1;clear H1;replace H:=Option.bind_eq_some_iff.mp H;obtain⟨af,A70,H⟩:=H;replace H:(some af)=some r:=H;have A7:=am_ A70;clear A70;obtain rfl:=Option.some.inj H
   go_enter Tryd.func51,Tryd.ntmps51
   go_wp2_with (first|((with_reducible refine gate_dst (N:=3) rfl ?_);refine box_y 3 #[.int .i64 aa,.int .i64 ac] 53 (h:=?_);intro ak hg w8 hbox hb;have ae:=am_ hbox;have aj:=gz_ hg HB;have ai:=gz_ hg HB;replace HB:=hb_ HB hb;clear hb hbox hg)|((with_reducible refine gate_callee (f:=50) rfl ?_);refine gl_ 6 Tryd.func50 #[.int .i64 a0,.int .i64 1,.int .i64 13] (h:=?_);(with_reducible refine(impl_inRange.calls a0 1 13 true _ A3.out).mono ?_);rintro e w' ⟨rfl,⟨nd,rfl⟩⟩;refine⟨_,rfl,?_⟩;obtain⟨au,aw,ax,ay⟩:=cz2_ ae)|(go_at_call 68;(with_reducible refine(impl_isPlace.calls aa a0 true _ A5.out).mono ?_);rintro e w' ⟨rfl,⟨nd,rfl⟩⟩)|(go_at_call 50;(with_reducible refine(impl_inRange.calls ac (-1000) 1000 af _ A7.out).mono ?_);rintro e w' ⟨rfl,⟨nd,rfl⟩⟩))
   go_ret
   exact⟨lf_,sq_below HB.out⟩
  ·
   replace c6:=Bool.eq_false_iff.mpr c6;subst c6;have H1:=ifn_ H
   clear H;have H:=H1;clear H1;obtain rfl:=Option.some.inj H
   go_enter Tryd.func51,Tryd.ntmps51
   go_wp2_with (first|((with_reducible refine gate_dst (N:=3) rfl ?_);refine box_y 3 #[.int .i64 aa,.int .i64 ac] 53 (h:=?_);intro ak hg az hbox hb;have ae:=am_ hbox;have aj:=gz_ hg HB;have ai:=gz_ hg HB;replace HB:=hb_ HB hb;clear hb hbox hg)|((with_reducible refine gate_callee (f:=50) rfl ?_);refine gl_ 6 Tryd.func50 #[.int .i64 a0,.int .i64 1,.int .i64 13] (h:=?_);(with_reducible refine(impl_inRange.calls a0 1 13 true _ A3.out).mono ?_);rintro e w' ⟨rfl,⟨nd,rfl⟩⟩;refine⟨_,rfl,?_⟩;obtain⟨ao,ap,aq,ar⟩:=cz2_ ae)|(go_at_call 68;(with_reducible refine(impl_isPlace.calls aa a0 false _ A5.out).mono ?_);rintro e w' ⟨rfl,⟨nd,rfl⟩⟩))
   go_ret
   exact⟨lf_,sq_below HB.out⟩
 ·
  replace c4:=Bool.eq_false_iff.mpr c4;subst c4;have H1:=ifn_ H
  clear H;have H:=H1;clear H1;obtain rfl:=Option.some.inj H
  go_enter Tryd.func51,Tryd.ntmps51
  go_wp2_with (first|((with_reducible refine gate_dst (N:=3) rfl ?_);refine box_y 3 #[.int .i64 aa,.int .i64 ac] 53 (h:=?_);intro ak hg aA hbox hb;have ae:=am_ hbox;have aj:=gz_ hg HB;have ai:=gz_ hg HB;replace HB:=hb_ HB hb;clear hb hbox hg)|((with_reducible refine gate_callee (f:=50) rfl ?_);refine gl_ 6 Tryd.func50 #[.int .i64 a0,.int .i64 1,.int .i64 13] (h:=?_);(with_reducible refine(impl_inRange.calls a0 1 13 false _ A3.out).mono ?_);rintro e w' ⟨rfl,⟨nd,rfl⟩⟩;refine⟨_,rfl,?_⟩))
  go_ret
  exact⟨lf_,sq_below HB.out⟩
def impl_SymLess.f(af:Int)(ak:Int)(ag:Int)(ao:Int):Option (Bool):=if af<ag then(some true)else(if af=ag then(some (decide (ak<ao)))else(some false))
theorem impl_SymLess.calls(af:Int)(ak:Int)(ag:Int)(ao:Int)(r:Bool)(w:World)(h:impl_SymLess.f af ak ag ao=some r) :
  Calls Tryd.prog 52 #[.agg #[.int .i64 af,.int .i64 ak],.agg #[.int .i64 ag,.int .i64 ao]] w fun e w'=>e=.returned (.bool r)∧Below w.heap.size w w':=by
 have hu53:=Tryd.underlying53;have HB:=am_ (Below.refl w.heap.size w);have H:(if af<ag then(some true)else(if af=ag then(some (decide (ak<ao)))else(some false)))=some r:=h;clear h
 by_cases c3:af<ag
 ·
  rw [if_pos c3]at H;have aU:=decide_eq_true (p:=af<ag) c3;clear c3;obtain rfl:=Option.some.inj H
  go_enter Tryd.func52,Tryd.ntmps52
  go_wp2_with (first|((with_reducible refine gate_dst (N:=2) rfl ?_);refine box_y 2 #[.int .i64 af,.int .i64 ak] 53 (h:=?_);intro ar hg w4 hbox hb;have ac:=am_ hbox;have ap:=gz_ hg HB;have ah:=gz_ hg HB;replace HB:=hb_ HB hb;clear hb hbox hg)|((with_reducible refine gate_dst (N:=3) rfl ?_);refine box_y 3 #[.int .i64 ag,.int .i64 ao] 53 (h:=?_);intro au hg w5 hbox hb;have ai:=am_ hbox;have aq:=gz1_ hg HB ah;have aj:=gz1_ hg HB ah;replace HB:=hb1_ HB hb ah;have aa:=nb_ hg ac;replace ac:=bb_ ac hb;have ae:=ns_ aa;clear hb hbox hg;have bk:=aa.out;have bn:=ae.out;obtain⟨aX,aY,a9,ba⟩:=cz2_ ac;obtain⟨aZ,a8,bc,bf⟩:=cz2_ ai))
  go_ret
  exact⟨lf_,sq_below1 HB.out aj.out⟩
 ·
  rw [if_neg c3]at H;have aU:=decide_eq_false (p:=af<ag) c3;clear c3
  by_cases c9:af=ag
  ·
   rw [if_pos c9]at H;have aV:(af == ag)=true:=beq_iff_eq.mpr c9;have aW:(af != ag)=false:=bne_eq_false_iff_eq.mpr c9;clear c9;obtain rfl:=Option.some.inj H
   go_enter Tryd.func52,Tryd.ntmps52
   go_wp2_with (first|((with_reducible refine gate_dst (N:=2) rfl ?_);refine box_y 2 #[.int .i64 af,.int .i64 ak] 53 (h:=?_);intro ar hg bo hbox hb;have ac:=am_ hbox;have ap:=gz_ hg HB;have ah:=gz_ hg HB;replace HB:=hb_ HB hb;clear hb hbox hg)|((with_reducible refine gate_dst (N:=3) rfl ?_);refine box_y 3 #[.int .i64 ag,.int .i64 ao] 53 (h:=?_);intro au hg bp hbox hb;have ai:=am_ hbox;have aq:=gz1_ hg HB ah;have aj:=gz1_ hg HB ah;replace HB:=hb1_ HB hb ah;have aa:=nb_ hg ac;replace ac:=bb_ ac hb;have ae:=ns_ aa;clear hb hbox hg;have bg:=aa.out;have bi:=ae.out;obtain⟨aw,ax,aH,aI⟩:=cz2_ ac;obtain⟨ay,az,aJ,aK⟩:=cz2_ ai))
   go_ret
   exact⟨lf_,sq_below1 HB.out aj.out⟩
  ·
   rw [if_neg c9]at H;have aV:(af == ag)=false:=beq_eq_false_iff_ne.mpr c9;have aW:(af != ag)=true:=bne_iff_ne.mpr c9;obtain rfl:=Option.some.inj H
   go_enter Tryd.func52,Tryd.ntmps52
   go_wp2_with (first|((with_reducible refine gate_dst (N:=2) rfl ?_);refine box_y 2 #[.int .i64 af,.int .i64 ak] 53 (h:=?_);intro ar hg bq hbox hb;have ac:=am_ hbox;have ap:=gz_ hg HB;have ah:=gz_ hg HB;replace HB:=hb_ HB hb;clear hb hbox hg)|((with_reducible refine gate_dst (N:=3) rfl ?_);refine box_y 3 #[.int .i64 ag,.int .i64 ao] 53 (h:=?_);intro au hg br hbox hb;have ai:=am_ hbox;have aq:=gz1_ hg HB ah;have aj:=gz1_ hg HB ah;replace HB:=hb1_ HB hb ah;have aa:=nb_ hg ac;replace ac:=bb_ ac hb;have ae:=ns_ aa;clear hb hbox hg;have bh:=aa.out;have bj:=ae.out;obtain⟨aA,aC,aM,aN⟩:=cz2_ ac;obtain⟨aD,aG,aQ,aT⟩:=cz2_ ai))
   go_ret
   exact⟨lf_,sq_below1 HB.out aj.out⟩
def impl_Sym_69.l0:Nat→List (S53)→Int→Int→Int→Int→Option (Int)
 |0,_,_,_,_,_=>none
 |k+1,x0,x7,x8,ao,ap=>if x8<x7 then(if 0≤x8 then(if x8<(x0.length:Int)then(if(ao ==((rd_T53 x0 x8).f0)&&(ap ==((rd_T53 x0 x8).f1)))=true then(some x8)else(impl_Sym_69.l0 k x0 x7 (wrap64 (x8+1)) ao ap))else(none))else(none))else(some (-1))
def impl_Sym_69.f(k:Nat)(l0:List (S53))(ac:Int)(ae:Int):Option (Int):=impl_Sym_69.l0 k l0 (l0.length:Int) 0 ac ae
theorem impl_Sym_69.mono_l:∀ k,(∀ y0 y1 y2 y3 y4,LeO (impl_Sym_69.l0 k y0 y1 y2 y3 y4) (impl_Sym_69.l0 (k+1) y0 y1 y2 y3 y4))
 |0=>fun _ _ _ _ _ r h=>by simp [impl_Sym_69.l0]at h
 |k+1=>by
  have ih0:=impl_Sym_69.mono_l k
  ·
   intro y0 y1 y2 y3 y4;unfold impl_Sym_69.l0
   repeat' first
   |(with_reducible exact ih0 _ _ _ _ _)|(with_reducible exact LeO.refl _)|(with_reducible exact LeO.none _)|(with_reducible refine LeO.ite ?_ ?_)|(with_reducible refine LeO.bind ?_ fun _=>?_)|exact ih0 _ _ _ _ _|exact LeO.none _|refine LeO.ite ?_ ?_|refine LeO.bind ?_ fun _=>?_
theorem impl_Sym_69.mono:∀ a0 a1 a2 k,LeO (impl_Sym_69.f k a0 a1 a2) (impl_Sym_69.f (k+1) a0 a1 a2):=by
 intro a0 a1 a2 k;have ih0:=impl_Sym_69.mono_l k;unfold impl_Sym_69.f
 repeat' first
   |(with_reducible exact ih0 _ _ _ _ _)|(with_reducible exact LeO.refl _)|(with_reducible exact LeO.none _)|(with_reducible refine LeO.ite ?_ ?_)|(with_reducible refine LeO.bind ?_ fun _=>?_)|exact ih0 _ _ _ _ _|exact LeO.none _|refine LeO.ite ?_ ?_|refine LeO.bind ?_ fun _=>?_
theorem impl_Sym_69.calls(k:Nat)(A0:Option Addr)(c0:Nat)(l0:List (S53))(ac:Int)(ae:Int)(r:Int)(w:World)(hr0:Kd.C k53 w A0 l0.length l0)(hc0:l0.length≤c0)(h:impl_Sym_69.f k l0 ac ae=some r) :
  Calls Tryd.prog 69 #[.slice A0 l0.length c0,.agg #[.int .i64 ac,.int .i64 ae]] w fun e w'=>e=.returned (.int .i64 r)∧Below w.heap.size w w':=by
 have hu53:=Tryd.underlying53;have aN:=am_ hr0;have aV:=am_ hc0;clear hr0 hc0;have HB:=am_ (Below.refl w.heap.size w);have H:(impl_Sym_69.l0 k l0 (l0.length:Int) 0 ac ae)=some r:=h;clear h;have H':=am_ H;clear H
 go_enter Tryd.func69,Tryd.ntmps69
 go_wp2_with (first|((with_reducible refine gate_dst (N:=3) rfl ?_);refine box_y 3 #[.int .i64 ac,.int .i64 ae] 53 (h:=?_);intro aq hg w3 hbox hb;have ah:=am_ hbox;have ar:=gz_ hg HB;have ai:=gz_ hg HB;replace HB:=hb_ HB hb;clear hb hbox hg))
 repeat(go_quiet (first|((with_reducible refine gate_dst (N:=3) rfl ?_);refine box_y 3 #[.int .i64 ac,.int .i64 ae] 53 (h:=?_);intro aq hg w3 hbox hb;have ah:=am_ hbox;have ar:=gz_ hg HB;have ai:=gz_ hg HB;replace HB:=hb_ HB hb;clear hb hbox hg));try go_wp2_with (first|((with_reducible refine gate_dst (N:=3) rfl ?_);refine box_y 3 #[.int .i64 ac,.int .i64 ae] 53 (h:=?_);intro aq hg w3 hbox hb;have ah:=am_ hbox;have ar:=gz_ hg HB;have ai:=gz_ hg HB;replace HB:=hb_ HB hb;clear hb hbox hg)))
 go_loopg [8] k (fun kq v8 w'=>∃ (aa:Int),v8=.int .i64 aa∧Aside0 (impl_Sym_69.l0 kq l0 (l0.length:Int) aa ac ae=some r)∧Aside0 (kq≤k)∧Aside0 (w'.heap[aq]?=some (.cells #[.int .i64 ac,.int .i64 ae] 53 (0,0)))∧Aside0 (Below w.heap.size w w'))
 case atStart=>exact⟨(0),sr_,H',⟨Nat.le_refl _⟩,bk_ ah,⟨sq_below1 HB.out ai.out⟩⟩
 case round =>
  clear H'
  obtain⟨aa,rfl,HA,HK1,ah,HB⟩:=hrel;cases gk with
  |zero=>exact absurd HA.out (by simp [impl_Sym_69.l0])
  |succ k1 =>
   have H:=HA.out;clear HA;simp only [impl_Sym_69.l0]at H
   by_cases c4:aa<(l0.length:Int)
   ·
    rw [if_pos c4]at H;have ax:=decide_eq_true (p:=aa<(l0.length:Int)) c4;clear c4
    by_cases c5:0≤aa
    ·
     rw [if_pos c5]at H;have aQ:=decide_eq_true (p:=0≤aa) c5;clear c5
     by_cases c6:aa<(l0.length:Int)
     ·
      rw [if_pos c6]at H;have aT:=decide_eq_true (p:=aa<(l0.length:Int)) c6;clear c6
      by_cases c7:(ac ==((rd_T53 l0 aa).f0)&&(ae ==((rd_T53 l0 aa).f1)))=true
      ·
       rw [if_pos c7]at H;have ay:(ac ==((rd_T53 l0 aa).f0)&&(ae ==((rd_T53 l0 aa).f1)))=true:=c7
       (try(have az:decide (ac=((rd_T53 l0 aa).f0)&&(ae ==((rd_T53 l0 aa).f1)))=true:=by simpa using c7))
       (try(have aA:(ac ==((rd_T53 l0 aa).f0)&&(ae ==((rd_T53 l0 aa).f1)))=true:=by simpa using c7))
       clear c7;obtain rfl:=Option.some.inj H;obtain⟨aC,aD,aI,aJ⟩:=cz2_ ah;have aj:0≤(aa:Int):=sq_dec;have ak:aa<(l0.length:Int):=sq_dec;obtain⟨aw,au,af,ag⟩:=at_T53 aN.out aa aj ak;cases au;replace af:=cb_ HB af;replace ag:=cb_ HB ag;replace aj:=eq_true aj;replace ak:=eq_true ak
       go_wp2
       repeat(go_quiet (fail);try go_wp2)
       go_ret
       exact⟨lf_,sq_below HB.out⟩
      ·
       rw [if_neg c7]at H;have ay:(ac ==((rd_T53 l0 aa).f0)&&(ae ==((rd_T53 l0 aa).f1)))=false:=by simpa using c7
       (try(have az:decide (ac=((rd_T53 l0 aa).f0)&&(ae ==((rd_T53 l0 aa).f1)))=false:=by simpa using c7))
       (try(have aA:(ac ==((rd_T53 l0 aa).f0)&&(ae ==((rd_T53 l0 aa).f1)))=false:=by simpa using c7))
       (try(have aU:¬(ac=((rd_T53 l0 aa).f0)&&(ae ==((rd_T53 l0 aa).f1))):=by simpa using c7))
       clear c7;have H':=am_ H;clear H;obtain⟨aG,aH,aK,aM⟩:=cz2_ ah;have aj:0≤(aa:Int):=sq_dec;have ak:aa<(l0.length:Int):=sq_dec;obtain⟨aw,au,af,ag⟩:=at_T53 aN.out aa aj ak;cases au;replace af:=cb_ HB af;replace ag:=cb_ HB ag;replace aj:=eq_true aj;replace ak:=eq_true ak
       go_wp2
       repeat(go_quiet (fail);try go_wp2)
       go_roundg k1
       case measure=>have:=HK1.out;omega
       case rel=>exact⟨(wrap64 (aa+1)),sr_,H',⟨by have:=HK1.out;omega⟩,bk_ ah,⟨sq_below1 HB.out ai.out⟩⟩
     ·
      rw [if_neg c6]at H;exact absurd H (by simp)
    ·
     rw [if_neg c5]at H;exact absurd H (by simp)
   ·
    rw [if_neg c4]at H;have ax:=decide_eq_false (p:=aa<(l0.length:Int)) c4;clear c4;obtain rfl:=Option.some.inj H
    go_wp2
    repeat(go_quiet (fail);try go_wp2)
    go_ret
    exact⟨lf_,sq_below1 HB.out ai.out⟩
def impl_Sym_53.f(k:Nat)(l0:List (S53))(aa:Int)(ac:Int):Option (Bool):=(impl_Sym_69.f k l0 aa ac).bind fun ae=>(some (decide (ae≥0)))
theorem impl_Sym_53.mono:∀ a0 a1 a2 k,LeO (impl_Sym_53.f k a0 a1 a2) (impl_Sym_53.f (k+1) a0 a1 a2):=by
 intro a0 a1 a2 k;unfold impl_Sym_53.f
 repeat' first
   |(with_reducible exact impl_Sym_69.mono _ _ _ _)|(with_reducible exact LeO.refl _)|(with_reducible exact LeO.none _)|(with_reducible refine LeO.ite ?_ ?_)|(with_reducible refine LeO.bind ?_ fun _=>?_)|exact impl_Sym_69.mono _ _ _ _|exact LeO.none _|refine LeO.ite ?_ ?_|refine LeO.bind ?_ fun _=>?_
theorem impl_Sym_53.calls(k:Nat)(A0:Option Addr)(c0:Nat)(l0:List (S53))(aa:Int)(ac:Int)(r:Bool)(w:World)(hr0:Kd.C k53 w A0 l0.length l0)(hc0:l0.length≤c0)(h:impl_Sym_53.f k l0 aa ac=some r) :
  Calls Tryd.prog 53 #[.slice A0 l0.length c0,.agg #[.int .i64 aa,.int .i64 ac]] w fun e w'=>e=.returned (.bool r)∧Below w.heap.size w w':=by
 have hu53:=Tryd.underlying53;have aw:=am_ hr0;have au:=am_ hc0;clear hr0 hc0;have HB:=am_ (Below.refl w.heap.size w);have H:((impl_Sym_69.f k l0 aa ac).bind fun ae=>(some (decide (ae≥0))))=some r:=h;clear h;replace H:=Option.bind_eq_some_iff.mp H;obtain⟨ae,A30,H⟩:=H;replace H:(some (decide (ae≥0)))=some r:=H;have A3:=am_ A30;clear A30;obtain rfl:=Option.some.inj H
 go_enter Tryd.func53,Tryd.ntmps53
 go_wp2_with (first|((with_reducible refine gate_dst (N:=3) rfl ?_);refine box_y 3 #[.int .i64 aa,.int .i64 ac] 53 (h:=?_);intro ar hg w4 hbox hb;have af:=am_ hbox;have aq:=gz_ hg HB;have ap:=gz_ hg HB;replace HB:=hb_ HB hb;clear hb hbox hg;obtain⟨ai,aj,ak,ao⟩:=cz2_ af)|((with_reducible refine gate_callee (f:=69) rfl ?_);refine gl_ 7 Tryd.func69 #[.slice A0 l0.length c0,.agg #[.int .i64 aa,.int .i64 ac]] (h:=?_);(with_reducible refine(impl_Sym_69.calls k _ _ l0 aa ac ae _ ?ag ?ah A3.out).mono ?_);(case ag=>exact sq_c (Kd.C_below aw.out HB.out));(case ah=>exact au.out);rintro e w6 ⟨rfl,hb⟩;refine⟨_,rfl,?_⟩;replace HB:=hb_ HB hb;(try clear hb)))
 go_ret
 exact⟨lf_,sq_below HB.out⟩
def impl_ends.f(a0:Int):Option (Int×Int×Int×Int):=some (0,0,a0,0)
theorem impl_ends.calls(a0:Int)(r1:Int)(r2:Int)(r3:Int)(r4:Int)(w:World)(h:impl_ends.f a0=some (r1,r2,r3,r4)) :
  Calls Tryd.prog 54 #[.int .i64 a0] w fun e w'=>e=.returned (.tuple #[.agg #[.int .i64 r1,.int .i64 r2],.agg #[.int .i64 r3,.int .i64 r4]])∧Below w.heap.size w w':=by
 have hu53:=Tryd.underlying53;have HB:=am_ (Below.refl w.heap.size w);have H:(some (0,0,a0,0))=some (r1,r2,r3,r4):=h;clear h;simp only [Option.some.injEq,Prod.mk.injEq]at H;obtain⟨rfl,rfl,rfl,rfl⟩:=H
 go_enter Tryd.func54,Tryd.ntmps54
 go_wp2_with (first|((with_reducible refine gate_dst (N:=2) rfl ?_);refine box_y 2 #[.int .i64 0,.int .i64 0] 53 (h:=?_);intro ai hg w2 hbox hb;have ae:=am_ hbox;have ay:=gz_ hg HB;have af:=gz_ hg HB;replace HB:=hb_ HB hb;clear hb hbox hg)|((with_reducible refine gate_dst (N:=3) rfl ?_);refine box_y 3 #[.int .i64 0,.int .i64 0] 53 (h:=?_);intro aj hg w3 hbox hb;have ag:=am_ hbox;have az:=gz1_ hg HB af;have ah:=gz1_ hg HB af;replace HB:=hb1_ HB hb af;have aa:=nb_ hg ae;replace ae:=bb_ ae hb;have ac:=ns_ aa;clear hb hbox hg;have aA:=aa.out;have aC:=ac.out;obtain⟨ak,ao,ar,au⟩:=cz2_ ae;obtain⟨ap,aq,aw,ax⟩:=cz2_ ag))
 refine bodyPost_ret (results_cc rfl _ _ ai aj 53 53 #[.int .i64 0,.int .i64 0] #[.int .i64 a0,.int .i64 0] (0,0) (0,0) _ _ rfl (bp1_ ae aa) Tryd.underlying53 rfl (by kernel_rfl) rfl (bp1_ ag ac) Tryd.underlying53 rfl (by kernel_rfl)) rfl ?_;exact⟨lf_,sq_below2 HB.out af.out ah.out⟩
def impl_isVal.f(a0:Int):Option (Bool):=(impl_inRange.f a0 (-1000000) 1000000).bind fun aa=>(some aa)
theorem impl_isVal.calls(a0:Int)(r:Bool)(w:World)(h:impl_isVal.f a0=some r) :
  Calls Tryd.prog 77 #[.int .i64 a0] w fun e w'=>e=.returned (.bool r)∧Drawn0 w w':=by
 have H:((impl_inRange.f a0 (-1000000) 1000000).bind fun aa=>(some aa))=some r:=h;clear h;replace H:=Option.bind_eq_some_iff.mp H;obtain⟨aa,A20,H⟩:=H;replace H:(some aa)=some r:=H;have A2:=am_ A20;clear A20;obtain rfl:=Option.some.inj H
 go_enter Tryd.func77,Tryd.ntmps77
 go_wp2_with (first|((with_reducible refine gate_callee (f:=50) rfl ?_);refine gl_ 4 Tryd.func50 #[.int .i64 a0,.int .i64 (-1000000),.int .i64 1000000] (h:=?_);(with_reducible refine(impl_inRange.calls a0 (-1000000) 1000000 aa _ A2.out).mono ?_);rintro e w' ⟨rfl,⟨nd,rfl⟩⟩;refine⟨_,rfl,?_⟩))
 go_ret
 exact⟨by first|rfl|(simp;done)|(simp [*];done),by repeat(first|exact Drawn0.refl _|apply Drawn0.step)⟩
end Go.Proofs.YtcdeojfeebmonaaDoor.Q
