/- Functions of the translation as Lean functions, each with a proof that a call answers so; out of the seat, by this claim's own program prt.py. -/
import Derived.Test.YtcdeojfeebmonaaDoorWRepsOne
import Derived.Test.YtcdeojfeebmonaaDoorQx0
import Derived.Test.YtcdeojfeebmonaaDoorQx1
import Derived.Test.YtcdeojfeebmonaaDoorQx3
import Derived.Test.YtcdeojfeebmonaaDoorQStep3
namespace Go.Proofs.YtcdeojfeebmonaaDoor.Q
open Go.RowKit Go.Proofs.YtcdeojfeebmonaaDoorW.PrintWords Go.Proofs.YtcdeojfeebmonaaDoorW.PrintLast Go.Proofs.YtcdeojfeebmonaaDoorW.PrintMore
attribute [local go_sem] max2_int min2_int max_two min_two max_three min_three max_four min_four
set_option linter.unusedVariables false
set_option maxHeartbeats 8000000
set_option maxRecDepth 100000
set_option linter.unusedSimpArgs false
attribute [local go_sem high] eqA53
def spec_SymOk.f(a0:Int)(aa:Int)(ac:Int):Option (Bool):=(spec_l01Between.f a0 1 13).bind fun ag=>(if ag=true then((spec_l01Between.f aa 0 (wrap64 (a0-1))).bind fun ah=>(if ah=true then((spec_l01Between.f ac (-1000) 1000).bind fun af=>(some af))else(some false)))else(some false))
theorem spec_SymOk.calls(a0:Int)(aa:Int)(ac:Int)(r:Bool)(w:World)(h:spec_SymOk.f a0 aa ac=some r) :
  Calls Tryd.prog 24 #[.int .i64 a0,.agg #[.int .i64 aa,.int .i64 ac]] w fun e w'=>e=.returned (.bool r)∧Below w.heap.size w w':=by
 have hu53:=Tryd.underlying53;have HB:=am_ (Below.refl w.heap.size w);have H:((spec_l01Between.f a0 1 13).bind fun ag=>(if ag=true then((spec_l01Between.f aa 0 (wrap64 (a0-1))).bind fun ah=>(if ah=true then((spec_l01Between.f ac (-1000) 1000).bind fun af=>(some af))else(some false)))else(some false)))=some r:=h;clear h;obtain⟨ag,A3,H⟩:=be_ H;(try dsimp only at H)
 by_cases c4:ag=true
 ·
  subst c4;have H1:=ifp_ H
  clear H;have H:=H1;clear H1;obtain⟨ah,A5,H⟩:=be_ H;(try dsimp only at H)
  by_cases c6:ah=true
  ·
   subst c6;have H1:=ifp_ H
   clear H;have H:=H1;clear H1;replace H:=Option.bind_eq_some_iff.mp H;obtain⟨af,A70,H⟩:=H;replace H:(some af)=some r:=H;have A7:=am_ A70;clear A70;obtain rfl:=Option.some.inj H
   go_enter Tryd.func24,Tryd.ntmps24
   go_wp2_with (first|((with_reducible refine gate_dst (N:=3) rfl ?_);refine box_y 3 #[.int .i64 aa,.int .i64 ac] 53 (h:=?_);intro ak hg w8 hbox hb;have ae:=am_ hbox;have aj:=gz_ hg HB;have ai:=gz_ hg HB;replace HB:=hb_ HB hb;clear hb hbox hg)|((with_reducible refine gate_callee (f:=40) rfl ?_);refine gl_ 6 Tryd.func40 #[.int .i64 a0,.int .i64 1,.int .i64 13] (h:=?_);(with_reducible refine(spec_l01Between.calls a0 1 13 true _ A3.out).mono ?_);rintro e w' ⟨rfl,⟨nd,rfl⟩⟩;refine⟨_,rfl,?_⟩;obtain⟨au,aw,ax,ay⟩:=cz2_ ae)|(go_at_call 40;(with_reducible refine(spec_l01Between.calls aa 0 (wrap64 (a0-1)) true _ A5.out).mono ?_);rintro e w' ⟨rfl,⟨nd,rfl⟩⟩)|(go_at_call 40;(with_reducible refine(spec_l01Between.calls ac (-1000) 1000 af _ A7.out).mono ?_);rintro e w' ⟨rfl,⟨nd,rfl⟩⟩))
   go_ret
   exact⟨lf_,sq_below HB.out⟩
  ·
   replace c6:=Bool.eq_false_iff.mpr c6;subst c6;have H1:=ifn_ H
   clear H;have H:=H1;clear H1;obtain rfl:=Option.some.inj H
   go_enter Tryd.func24,Tryd.ntmps24
   go_wp2_with (first|((with_reducible refine gate_dst (N:=3) rfl ?_);refine box_y 3 #[.int .i64 aa,.int .i64 ac] 53 (h:=?_);intro ak hg az hbox hb;have ae:=am_ hbox;have aj:=gz_ hg HB;have ai:=gz_ hg HB;replace HB:=hb_ HB hb;clear hb hbox hg)|((with_reducible refine gate_callee (f:=40) rfl ?_);refine gl_ 6 Tryd.func40 #[.int .i64 a0,.int .i64 1,.int .i64 13] (h:=?_);(with_reducible refine(spec_l01Between.calls a0 1 13 true _ A3.out).mono ?_);rintro e w' ⟨rfl,⟨nd,rfl⟩⟩;refine⟨_,rfl,?_⟩;obtain⟨ao,ap,aq,ar⟩:=cz2_ ae)|(go_at_call 40;(with_reducible refine(spec_l01Between.calls aa 0 (wrap64 (a0-1)) false _ A5.out).mono ?_);rintro e w' ⟨rfl,⟨nd,rfl⟩⟩))
   go_ret
   exact⟨lf_,sq_below HB.out⟩
 ·
  replace c4:=Bool.eq_false_iff.mpr c4;subst c4;have H1:=ifn_ H
  clear H;have H:=H1;clear H1;obtain rfl:=Option.some.inj H
  go_enter Tryd.func24,Tryd.ntmps24
  go_wp2_with (first|((with_reducible refine gate_dst (N:=3) rfl ?_);refine box_y 3 #[.int .i64 aa,.int .i64 ac] 53 (h:=?_);intro ak hg aA hbox hb;have ae:=am_ hbox;have aj:=gz_ hg HB;have ai:=gz_ hg HB;replace HB:=hb_ HB hb;clear hb hbox hg)|((with_reducible refine gate_callee (f:=40) rfl ?_);refine gl_ 6 Tryd.func40 #[.int .i64 a0,.int .i64 1,.int .i64 13] (h:=?_);(with_reducible refine(spec_l01Between.calls a0 1 13 false _ A3.out).mono ?_);rintro e w' ⟨rfl,⟨nd,rfl⟩⟩;refine⟨_,rfl,?_⟩))
  go_ret
  exact⟨lf_,sq_below HB.out⟩
def spec_SymLess.f(af:Int)(ak:Int)(ag:Int)(ao:Int):Option (Bool):=if af<ag then(some true)else(if af=ag then(some (decide (ak<ao)))else(some false))
theorem spec_SymLess.calls(af:Int)(ak:Int)(ag:Int)(ao:Int)(r:Bool)(w:World)(h:spec_SymLess.f af ak ag ao=some r) :
  Calls Tryd.prog 25 #[.agg #[.int .i64 af,.int .i64 ak],.agg #[.int .i64 ag,.int .i64 ao]] w fun e w'=>e=.returned (.bool r)∧Below w.heap.size w w':=by
 have hu53:=Tryd.underlying53;have HB:=am_ (Below.refl w.heap.size w);have H:(if af<ag then(some true)else(if af=ag then(some (decide (ak<ao)))else(some false)))=some r:=h;clear h
 by_cases c3:af<ag
 ·
  rw [if_pos c3]at H;have aU:=decide_eq_true (p:=af<ag) c3;clear c3;obtain rfl:=Option.some.inj H
  go_enter Tryd.func25,Tryd.ntmps25
  go_wp2_with (first|((with_reducible refine gate_dst (N:=2) rfl ?_);refine box_y 2 #[.int .i64 af,.int .i64 ak] 53 (h:=?_);intro ar hg w4 hbox hb;have ac:=am_ hbox;have ap:=gz_ hg HB;have ah:=gz_ hg HB;replace HB:=hb_ HB hb;clear hb hbox hg)|((with_reducible refine gate_dst (N:=3) rfl ?_);refine box_y 3 #[.int .i64 ag,.int .i64 ao] 53 (h:=?_);intro au hg w5 hbox hb;have ai:=am_ hbox;have aq:=gz1_ hg HB ah;have aj:=gz1_ hg HB ah;replace HB:=hb1_ HB hb ah;have aa:=nb_ hg ac;replace ac:=bb_ ac hb;have ae:=ns_ aa;clear hb hbox hg;have bk:=aa.out;have bn:=ae.out;obtain⟨aX,aY,a9,ba⟩:=cz2_ ac;obtain⟨aZ,a8,bc,bf⟩:=cz2_ ai))
  go_ret
  exact⟨lf_,sq_below1 HB.out aj.out⟩
 ·
  rw [if_neg c3]at H;have aU:=decide_eq_false (p:=af<ag) c3;clear c3
  by_cases c9:af=ag
  ·
   rw [if_pos c9]at H;have aV:(af == ag)=true:=beq_iff_eq.mpr c9;have aW:(af != ag)=false:=bne_eq_false_iff_eq.mpr c9;clear c9;obtain rfl:=Option.some.inj H
   go_enter Tryd.func25,Tryd.ntmps25
   go_wp2_with (first|((with_reducible refine gate_dst (N:=2) rfl ?_);refine box_y 2 #[.int .i64 af,.int .i64 ak] 53 (h:=?_);intro ar hg bo hbox hb;have ac:=am_ hbox;have ap:=gz_ hg HB;have ah:=gz_ hg HB;replace HB:=hb_ HB hb;clear hb hbox hg)|((with_reducible refine gate_dst (N:=3) rfl ?_);refine box_y 3 #[.int .i64 ag,.int .i64 ao] 53 (h:=?_);intro au hg bp hbox hb;have ai:=am_ hbox;have aq:=gz1_ hg HB ah;have aj:=gz1_ hg HB ah;replace HB:=hb1_ HB hb ah;have aa:=nb_ hg ac;replace ac:=bb_ ac hb;have ae:=ns_ aa;clear hb hbox hg;have bg:=aa.out;have bi:=ae.out;obtain⟨aw,ax,aH,aI⟩:=cz2_ ac;obtain⟨ay,az,aJ,aK⟩:=cz2_ ai))
   go_ret
   exact⟨lf_,sq_below1 HB.out aj.out⟩
  ·
   rw [if_neg c9]at H;have aV:(af == ag)=false:=beq_eq_false_iff_ne.mpr c9;have aW:(af != ag)=true:=bne_iff_ne.mpr c9;obtain rfl:=Option.some.inj H
   go_enter Tryd.func25,Tryd.ntmps25
   go_wp2_with (first|((with_reducible refine gate_dst (N:=2) rfl ?_);refine box_y 2 #[.int .i64 af,.int .i64 ak] 53 (h:=?_);intro ar hg bq hbox hb;have ac:=am_ hbox;have ap:=gz_ hg HB;have ah:=gz_ hg HB;replace HB:=hb_ HB hb;clear hb hbox hg)|((with_reducible refine gate_dst (N:=3) rfl ?_);refine box_y 3 #[.int .i64 ag,.int .i64 ao] 53 (h:=?_);intro au hg br hbox hb;have ai:=am_ hbox;have aq:=gz1_ hg HB ah;have aj:=gz1_ hg HB ah;replace HB:=hb1_ HB hb ah;have aa:=nb_ hg ac;replace ac:=bb_ ac hb;have ae:=ns_ aa;clear hb hbox hg;have bh:=aa.out;have bj:=ae.out;obtain⟨aA,aC,aM,aN⟩:=cz2_ ac;obtain⟨aD,aG,aQ,aT⟩:=cz2_ ai))
   go_ret
   exact⟨lf_,sq_below1 HB.out aj.out⟩
def spec_l10Find.l0:Nat→List (S53)→Int→Int→Int→Option (Int)
 |0,_,_,_,_=>none
 |k+1,x0,x5,ao,ap=>if x5<(x0.length:Int)then(if 0≤x5 then(if(((rd_T53 x0 x5).f0) == ao&&(((rd_T53 x0 x5).f1) == ap))=true then(some x5)else(spec_l10Find.l0 k x0 (wrap64 (x5+1)) ao ap))else(none))else(some (-1))
def spec_l10Find.f(k:Nat)(l0:List (S53))(ac:Int)(ae:Int):Option (Int):=spec_l10Find.l0 k l0 0 ac ae
theorem spec_l10Find.mono_l:∀ k,(∀ y0 y1 y2 y3,LeO (spec_l10Find.l0 k y0 y1 y2 y3) (spec_l10Find.l0 (k+1) y0 y1 y2 y3))
 |0=>fun _ _ _ _ r h=>by simp [spec_l10Find.l0]at h
 |k+1=>by
  have ih0:=spec_l10Find.mono_l k
  ·
   intro y0 y1 y2 y3;unfold spec_l10Find.l0
   repeat' first
   |(with_reducible exact ih0 _ _ _ _)|(with_reducible exact LeO.refl _)|(with_reducible exact LeO.none _)|(with_reducible refine LeO.ite ?_ ?_)|(with_reducible refine LeO.bind ?_ fun _=>?_)|exact ih0 _ _ _ _|exact LeO.none _|refine LeO.ite ?_ ?_|refine LeO.bind ?_ fun _=>?_
theorem spec_l10Find.mono:∀ a0 a1 a2 k,LeO (spec_l10Find.f k a0 a1 a2) (spec_l10Find.f (k+1) a0 a1 a2):=by
 intro a0 a1 a2 k;have ih0:=spec_l10Find.mono_l k;unfold spec_l10Find.f
 repeat' first
   |(with_reducible exact ih0 _ _ _ _)|(with_reducible exact LeO.refl _)|(with_reducible exact LeO.none _)|(with_reducible refine LeO.ite ?_ ?_)|(with_reducible refine LeO.bind ?_ fun _=>?_)|exact ih0 _ _ _ _|exact LeO.none _|refine LeO.ite ?_ ?_|refine LeO.bind ?_ fun _=>?_
theorem spec_l10Find.calls(k:Nat)(A0:Option Addr)(c0:Nat)(l0:List (S53))(ac:Int)(ae:Int)(r:Int)(w:World)(hr0:Kd.C k53 w A0 l0.length l0)(hc0:l0.length≤c0)(h:spec_l10Find.f k l0 ac ae=some r) :
  Calls Tryd.prog 41 #[.slice A0 l0.length c0,.agg #[.int .i64 ac,.int .i64 ae]] w fun e w'=>e=.returned (.int .i64 r)∧Below w.heap.size w w':=by
 have hu53:=Tryd.underlying53;have aN:=am_ hr0;have aU:=am_ hc0;clear hr0 hc0;have HB:=am_ (Below.refl w.heap.size w);have H:(spec_l10Find.l0 k l0 0 ac ae)=some r:=h;clear h;have H':=am_ H;clear H
 go_enter Tryd.func41,Tryd.ntmps41
 go_wp2_with (first|((with_reducible refine gate_dst (N:=3) rfl ?_);refine box_y 3 #[.int .i64 ac,.int .i64 ae] 53 (h:=?_);intro aq hg w3 hbox hb;have ah:=am_ hbox;have ar:=gz_ hg HB;have ai:=gz_ hg HB;replace HB:=hb_ HB hb;clear hb hbox hg))
 repeat(go_quiet (first|((with_reducible refine gate_dst (N:=3) rfl ?_);refine box_y 3 #[.int .i64 ac,.int .i64 ae] 53 (h:=?_);intro aq hg w3 hbox hb;have ah:=am_ hbox;have ar:=gz_ hg HB;have ai:=gz_ hg HB;replace HB:=hb_ HB hb;clear hb hbox hg));try go_wp2_with (first|((with_reducible refine gate_dst (N:=3) rfl ?_);refine box_y 3 #[.int .i64 ac,.int .i64 ae] 53 (h:=?_);intro aq hg w3 hbox hb;have ah:=am_ hbox;have ar:=gz_ hg HB;have ai:=gz_ hg HB;replace HB:=hb_ HB hb;clear hb hbox hg)))
 go_loopg [5] k (fun kq v5 w'=>∃ (aa:Int),v5=.int .i64 aa∧Aside0 (spec_l10Find.l0 kq l0 aa ac ae=some r)∧Aside0 (kq≤k)∧Aside0 (w'.heap[aq]?=some (.cells #[.int .i64 ac,.int .i64 ae] 53 (0,0)))∧Aside0 (Below w.heap.size w w'))
 case atStart=>exact⟨(0),sr_,H',⟨Nat.le_refl _⟩,bk_ ah,⟨sq_below1 HB.out ai.out⟩⟩
 case round =>
  clear H'
  obtain⟨aa,rfl,HA,HK1,ah,HB⟩:=hrel;cases gk with
  |zero=>exact absurd HA.out (by simp [spec_l10Find.l0])
  |succ k1 =>
   have H:=HA.out;clear HA;simp only [spec_l10Find.l0]at H
   by_cases c4:aa<(l0.length:Int)
   ·
    rw [if_pos c4]at H;have ax:=decide_eq_true (p:=aa<(l0.length:Int)) c4;clear c4
    by_cases c5:0≤aa
    ·
     rw [if_pos c5]at H;have aQ:=decide_eq_true (p:=0≤aa) c5;clear c5
     by_cases c6:(((rd_T53 l0 aa).f0) == ac&&(((rd_T53 l0 aa).f1) == ae))=true
     ·
      rw [if_pos c6]at H;have ay:(((rd_T53 l0 aa).f0) == ac&&(((rd_T53 l0 aa).f1) == ae))=true:=c6
      (try(have az:decide (((rd_T53 l0 aa).f0)=ac&&(((rd_T53 l0 aa).f1) == ae))=true:=by simpa using c6))
      (try(have aA:(((rd_T53 l0 aa).f0) == ac&&(((rd_T53 l0 aa).f1) == ae))=true:=by simpa using c6))
      clear c6;obtain rfl:=Option.some.inj H;have aj:0≤(aa:Int):=sq_dec;have ak:aa<(l0.length:Int):=sq_dec;obtain⟨aw,au,af,ag⟩:=at_T53 aN.out aa aj ak;cases au;replace af:=cb_ HB af;replace ag:=cb_ HB ag;replace aj:=eq_true aj;replace ak:=eq_true ak;obtain⟨aC,aD,aI,aJ⟩:=cz2_ ah
      go_wp2
      repeat(go_quiet (fail);try go_wp2)
      go_ret
      exact⟨lf_,sq_below1 HB.out ai.out⟩
     ·
      rw [if_neg c6]at H;have ay:(((rd_T53 l0 aa).f0) == ac&&(((rd_T53 l0 aa).f1) == ae))=false:=by simpa using c6
      (try(have az:decide (((rd_T53 l0 aa).f0)=ac&&(((rd_T53 l0 aa).f1) == ae))=false:=by simpa using c6))
      (try(have aA:(((rd_T53 l0 aa).f0) == ac&&(((rd_T53 l0 aa).f1) == ae))=false:=by simpa using c6))
      (try(have aT:¬(((rd_T53 l0 aa).f0)=ac&&(((rd_T53 l0 aa).f1) == ae)):=by simpa using c6))
      clear c6;have H':=am_ H;clear H;have aj:0≤(aa:Int):=sq_dec;have ak:aa<(l0.length:Int):=sq_dec;obtain⟨aw,au,af,ag⟩:=at_T53 aN.out aa aj ak;cases au;replace af:=cb_ HB af;replace ag:=cb_ HB ag;replace aj:=eq_true aj;replace ak:=eq_true ak;obtain⟨aG,aH,aK,aM⟩:=cz2_ ah
      go_wp2
      repeat(go_quiet (fail);try go_wp2)
      go_roundg k1
      case measure=>have:=HK1.out;omega
      case rel=>exact⟨(wrap64 (aa+1)),sr_,H',⟨by have:=HK1.out;omega⟩,bk_ ah,⟨sq_below1 HB.out ai.out⟩⟩
    ·
     rw [if_neg c5]at H;exact absurd H (by simp)
   ·
    rw [if_neg c4]at H;have ax:=decide_eq_false (p:=aa<(l0.length:Int)) c4;clear c4;obtain rfl:=Option.some.inj H
    go_wp2
    repeat(go_quiet (fail);try go_wp2)
    go_ret
    exact⟨lf_,sq_below1 HB.out ai.out⟩
end Go.Proofs.YtcdeojfeebmonaaDoor.Q
